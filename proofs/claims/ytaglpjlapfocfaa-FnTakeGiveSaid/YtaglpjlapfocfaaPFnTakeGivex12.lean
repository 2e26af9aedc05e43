-- printed by a program of this session (wip/printx) out of the translation; Lean checks it
import Derived.Test.YtaglpjlapfocfaaPFnTakeGivex0
import Derived.Test.YtaglpjlapfocfaaPFnTakeGivex3
import Derived.Test.YtaglpjlapfocfaaPFnTakeGivex7
import Derived.Test.YtaglpjlapfocfaaPFnTakeGivex8
import Derived.Test.YtaglpjlapfocfaaPFnTakeGivex11
namespace Go.Proofs.Ytaglpjlapfocfaa.PFnTakeGive
open Go.RowKit Go.Proofs.YtaglpjlapfocfaaW.PrintWords Go.Proofs.YtaglpjlapfocfaaW.PrintLast Go.Proofs.YtaglpjlapfocfaaW.PrintMore
attribute [local go_sem] max2_int min2_int max_two min_two max_three min_three max_four min_four   -- for this text's walks alone
set_option linter.unusedVariables false
set_option linter.unusedSimpArgs false

/-! ### spec_DrawSlabTake: function 58 -/
def spec_DrawSlabTake.f (k : Nat) (l0 : List Int) : Option (Int × List Int × Int) := (spec_l01Open.f l0).bind fun bt358 => ((spec_l01Cur_badSlab.f k bt358.1 bt358.2.1 bt358.2.2).bind fun bt362 => ((spec_l01Cur_pick.f bt358.1 bt362.2.2.1 bt362.2.2.2 6).bind fun bt369 => ((spec_l01Cur_raw.f bt358.1 bt369.2.1 bt369.2.2).bind fun bt372 => ((spec_SlabRoom.f k bt362.1 bt362.2.1).bind fun t375 => ((spec_SlabRoom.f k bt362.1 bt362.2.1).bind fun t376 => ((some (([wrap64 (1 + bt369.1), bt372.1, mx 0 t375, wrap64 (t376 + 1)] : List Int) : List Int)).bind fun y377 => ((spec_l01Cur_pick.f bt358.1 bt372.2.1 bt372.2.2 4).bind fun bt380 => (if 0 ≤ bt380.1 then (if bt380.1 < (y377.length : Int) then (some (bt362.1, bt362.2.1, rd y377 bt380.1)) else (none)) else (none)))))))))
theorem spec_DrawSlabTake.mono : ∀ a0 k, LeO (spec_DrawSlabTake.f k a0) (spec_DrawSlabTake.f (k + 1) a0) := by
 intro a0 k
 unfold spec_DrawSlabTake.f
 repeat' first
   | (with_reducible exact spec_SlabRoom.mono _ _ _)
   | (with_reducible exact spec_l01Cur_badSlab.mono _ _ _ _)
   | (with_reducible exact LeO.refl _)
   | (with_reducible exact LeO.none _)
   | (with_reducible refine LeO.ite ?_ ?_)
   | (with_reducible refine LeO.bind ?_ (fun _ => ?_))
   | exact spec_SlabRoom.mono _ _ _
   | exact spec_l01Cur_badSlab.mono _ _ _ _
   | exact LeO.none _
   | refine LeO.ite ?_ ?_
   | refine LeO.bind ?_ (fun _ => ?_)
def spec_DrawSlabTake.T3 : Bool × List (List Nat × List Nat) := (true, [([], []), ([], []), ([1], [1]), ([2], [2]), ([], []), ([4, 2], [4]), ([], []), ([6, 5], [6]), ([7], [7]), ([], []), ([9, 7], [9]), ([10], [10]), ([3, 5, 8, 11], [3, 5, 8, 11]), ([], []), ([13, 10], [13]), ([12, 14], [12, 14]), ([15], [15]), ([0, 14, 0], [0]), ([16, 17, 0, 1, 2, 3, 4, 5, 6, 7, 8, 9, 10, 11, 12, 13, 14, 15, 16, 17], [16])])
def spec_DrawSlabTake.B3 : List Nat := [0, 0, 2, 6, 0, 22, 0, 118, 246, 0, 758, 1782, 4094, 0, 9974, 32766, 65534, 26359, 262143]
theorem spec_DrawSlabTake.tab3 : rtab .any (opsOf Try.f58 3) = spec_DrawSlabTake.T3 := by kernel_rfl
theorem spec_DrawSlabTake.bits3 : waitsOk spec_DrawSlabTake.T3.2 spec_DrawSlabTake.B3 = true := by kernel_rfl
set_option maxHeartbeats 8000000 in
set_option maxRecDepth 100000 in
theorem spec_DrawSlabTake.calls (k : Nat) (A0 : Option Addr) (c0 : Nat) (l0 : List Int) (r1 : Int) (r2 : List Int) (r3 : Int) (w : World) (hr0 : Kd.C (Kd.int .u8) w A0 l0.length l0) (hc0 : l0.length ≤ c0) (h : spec_DrawSlabTake.f k l0 = some (r1, r2, r3)) :
  Calls Try.prog 58 #[.slice A0 l0.length c0] w fun e w' => ∃ v1_ : Value, e = .returned (.tuple #[.agg #[.int .i64 r1, v1_], .int .i64 r3]) ∧ Kd.R (Kd.int .i64) 3 w' w.heap.size (fun _ => True) v1_ r2 ∧ Below w.heap.size w w' := by
 have hu24 := Try.underlying24
 have HR0 := Aside0.mk hr0
 have HC0 := Aside0.mk hc0
 clear hr0 hc0
 have HB := Aside0.mk (Below.refl w.heap.size w)
 have H : ((spec_l01Open.f l0).bind fun bt358 => ((spec_l01Cur_badSlab.f k bt358.1 bt358.2.1 bt358.2.2).bind fun bt362 => ((spec_l01Cur_pick.f bt358.1 bt362.2.2.1 bt362.2.2.2 6).bind fun bt369 => ((spec_l01Cur_raw.f bt358.1 bt369.2.1 bt369.2.2).bind fun bt372 => ((spec_SlabRoom.f k bt362.1 bt362.2.1).bind fun t375 => ((spec_SlabRoom.f k bt362.1 bt362.2.1).bind fun t376 => ((some (([wrap64 (1 + bt369.1), bt372.1, mx 0 t375, wrap64 (t376 + 1)] : List Int) : List Int)).bind fun y377 => ((spec_l01Cur_pick.f bt358.1 bt372.2.1 bt372.2.2 4).bind fun bt380 => (if 0 ≤ bt380.1 then (if bt380.1 < (y377.length : Int) then (some (bt362.1, bt362.2.1, rd y377 bt380.1)) else (none)) else (none)))))))))) = some (r1, r2, r3) := h
 clear h
 replace H := Option.bind_eq_some_iff.mp H
 obtain ⟨⟨t358, t359, t360⟩, A20, H⟩ := H
 replace H : ((spec_l01Cur_badSlab.f k t358 t359 t360).bind fun bt362 => ((spec_l01Cur_pick.f t358 bt362.2.2.1 bt362.2.2.2 6).bind fun bt369 => ((spec_l01Cur_raw.f t358 bt369.2.1 bt369.2.2).bind fun bt372 => ((spec_SlabRoom.f k bt362.1 bt362.2.1).bind fun t375 => ((spec_SlabRoom.f k bt362.1 bt362.2.1).bind fun t376 => ((some (([wrap64 (1 + bt369.1), bt372.1, mx 0 t375, wrap64 (t376 + 1)] : List Int) : List Int)).bind fun y377 => ((spec_l01Cur_pick.f t358 bt372.2.1 bt372.2.2 4).bind fun bt380 => (if 0 ≤ bt380.1 then (if bt380.1 < (y377.length : Int) then (some (bt362.1, bt362.2.1, rd y377 bt380.1)) else (none)) else (none))))))))) = some (r1, r2, r3) := H
 have A2 := Aside0.mk A20
 clear A20
 replace H := Option.bind_eq_some_iff.mp H
 obtain ⟨⟨t362, t363, t366, t367⟩, A30, H⟩ := H
 replace H : ((spec_l01Cur_pick.f t358 t366 t367 6).bind fun bt369 => ((spec_l01Cur_raw.f t358 bt369.2.1 bt369.2.2).bind fun bt372 => ((spec_SlabRoom.f k t362 t363).bind fun t375 => ((spec_SlabRoom.f k t362 t363).bind fun t376 => ((some (([wrap64 (1 + bt369.1), bt372.1, mx 0 t375, wrap64 (t376 + 1)] : List Int) : List Int)).bind fun y377 => ((spec_l01Cur_pick.f t358 bt372.2.1 bt372.2.2 4).bind fun bt380 => (if 0 ≤ bt380.1 then (if bt380.1 < (y377.length : Int) then (some (t362, t363, rd y377 bt380.1)) else (none)) else (none)))))))) = some (r1, r2, r3) := H
 have A3 := Aside0.mk A30
 clear A30
 replace H := Option.bind_eq_some_iff.mp H
 obtain ⟨⟨t369, t370, t371⟩, A40, H⟩ := H
 replace H : ((spec_l01Cur_raw.f t358 t370 t371).bind fun bt372 => ((spec_SlabRoom.f k t362 t363).bind fun t375 => ((spec_SlabRoom.f k t362 t363).bind fun t376 => ((some (([wrap64 (1 + t369), bt372.1, mx 0 t375, wrap64 (t376 + 1)] : List Int) : List Int)).bind fun y377 => ((spec_l01Cur_pick.f t358 bt372.2.1 bt372.2.2 4).bind fun bt380 => (if 0 ≤ bt380.1 then (if bt380.1 < (y377.length : Int) then (some (t362, t363, rd y377 bt380.1)) else (none)) else (none))))))) = some (r1, r2, r3) := H
 have A4 := Aside0.mk A40
 clear A40
 replace H := Option.bind_eq_some_iff.mp H
 obtain ⟨⟨t372, t373, t374⟩, A50, H⟩ := H
 replace H : ((spec_SlabRoom.f k t362 t363).bind fun t375 => ((spec_SlabRoom.f k t362 t363).bind fun t376 => ((some (([wrap64 (1 + t369), t372, mx 0 t375, wrap64 (t376 + 1)] : List Int) : List Int)).bind fun y377 => ((spec_l01Cur_pick.f t358 t373 t374 4).bind fun bt380 => (if 0 ≤ bt380.1 then (if bt380.1 < (y377.length : Int) then (some (t362, t363, rd y377 bt380.1)) else (none)) else (none)))))) = some (r1, r2, r3) := H
 have A5 := Aside0.mk A50
 clear A50
 replace H := Option.bind_eq_some_iff.mp H
 obtain ⟨t375, A60, H⟩ := H
 replace H : ((spec_SlabRoom.f k t362 t363).bind fun t376 => ((some (([wrap64 (1 + t369), t372, mx 0 t375, wrap64 (t376 + 1)] : List Int) : List Int)).bind fun y377 => ((spec_l01Cur_pick.f t358 t373 t374 4).bind fun bt380 => (if 0 ≤ bt380.1 then (if bt380.1 < (y377.length : Int) then (some (t362, t363, rd y377 bt380.1)) else (none)) else (none))))) = some (r1, r2, r3) := H
 have A6 := Aside0.mk A60
 clear A60
 obtain ⟨ji7, hji7⟩ : ∃ j_ : Int, (mx 0 t375) = j_ := ⟨_, rfl⟩
 replace H : ((spec_SlabRoom.f k t362 t363).bind fun t376 => ((some (([wrap64 (1 + t369), t372, ji7, wrap64 (t376 + 1)] : List Int) : List Int)).bind fun y377 => ((spec_l01Cur_pick.f t358 t373 t374 4).bind fun bt380 => (if 0 ≤ bt380.1 then (if bt380.1 < (y377.length : Int) then (some (t362, t363, rd y377 bt380.1)) else (none)) else (none))))) = some (r1, r2, r3) := by first | (rw [hji7] at H; exact H) | (simp only [hji7] at H ⊢; exact H)
 (try rw [hji7] at A2)
 (try rw [hji7] at A3)
 (try rw [hji7] at A4)
 (try rw [hji7] at A5)
 (try rw [hji7] at A6)
 (try (have hji7l : 0 ≤ ji7 := by (rw [← hji7]; unfold mx; (repeat' split) <;> omega)))
 (try (have hji7m : 0 ≤ ji7 := by omega))
 have hji7_ : (if 0 < t375 then t375 else 0) = ji7 := hji7
 replace H := Option.bind_eq_some_iff.mp H
 obtain ⟨t376, A80, H⟩ := H
 replace H : ((some (([wrap64 (1 + t369), t372, ji7, wrap64 (t376 + 1)] : List Int) : List Int)).bind fun y377 => ((spec_l01Cur_pick.f t358 t373 t374 4).bind fun bt380 => (if 0 ≤ bt380.1 then (if bt380.1 < (y377.length : Int) then (some (t362, t363, rd y377 bt380.1)) else (none)) else (none)))) = some (r1, r2, r3) := H
 have A8 := Aside0.mk A80
 clear A80
 obtain ⟨y377, hy377⟩ : ∃ y_ : List Int, y_ = (([wrap64 (1 + t369), t372, ji7, wrap64 (t376 + 1)] : List Int)) := ⟨_, rfl⟩
 replace H : ((spec_l01Cur_pick.f t358 t373 t374 4).bind fun bt380 => (if 0 ≤ bt380.1 then (if bt380.1 < (y377.length : Int) then (some (t362, t363, rd y377 bt380.1)) else (none)) else (none))) = some (r1, r2, r3) := by first | (rw [hy377]; with_reducible exact H) | (have H2_ := (Option.bind_some _ _).symm.trans H; rw [hy377]; with_reducible exact H2_) | (have H2_ := (Option.bind_some _ _).symm.trans H; with_reducible exact H2_) | with_reducible exact H | (rw [hy377]; exact H) | exact H
 have Ny377 := Aside0.mk hy377
 clear hy377
 replace H := Option.bind_eq_some_iff.mp H
 obtain ⟨⟨t380, t381, t382⟩, A90, H⟩ := H
 replace H : (if 0 ≤ t380 then (if t380 < (y377.length : Int) then (some (t362, t363, rd y377 t380)) else (none)) else (none)) = some (r1, r2, r3) := H
 have A9 := Aside0.mk A90
 clear A90
 by_cases c10 : 0 ≤ t380
 ·rw [if_pos c10] at H
  have c10b0 : decide (0 ≤ t380) = true := decide_eq_true c10
  clear c10
  by_cases c11 : t380 < (y377.length : Int)
  ·rw [if_pos c11] at H
   have c11b0 : decide (t380 < (y377.length : Int)) = true := decide_eq_true c11
   clear c11
   simp only [Option.some.injEq, Prod.mk.injEq] at H
   obtain ⟨rfl, rfl, rfl⟩ := H
   go_enter Try.func58, Try.ntmps58
   try go_wp2_with (first | ((with_reducible refine gate_dst (N := 2) rfl ?_); refine box_event ?hg (N := 2) ?hd (cs := #[.int .i64 0, .slice none 0 0]) (t := 24) ?hr ?_; (case hd => rfl); (case hg => rfl); (case hr => first | (go_simp; done) | (go_simp; rfl)); intro gb357 hg w12 hbox hb; have n0_ := Aside0.mk (below_step (be_ HB) hb); have n1_ := Aside0.mk (hbox); have n2_ := Aside0.mk ((by rw [hg]; exact (below_size (be_ HB)) : w.heap.size ≤ gb357)); have n3_ := Aside0.mk ((by rw [hg]; exact (below_size (be_ HB)) : w.heap.size ≤ gb357)); clear HB; have HB := n0_; have BK357 := n1_; have GW357 := n2_; have GE357 := n3_; clear n0_ n1_ n2_ n3_; clear hb hbox hg) | ((with_reducible refine gate_callee (f := 75) rfl ?_); refine goesL_ (some 7) rfl rfl Try.func75 (by kernel_rfl) rfl #[.slice A0 l0.length c0] rfl mt_ ?_; (with_reducible refine (spec_l01Open.calls _ _ l0 t358 t359 t360 w _ ?side1 ?side2 ?side3 A2.out).mono ?_); (case side1 => repeat (first | (with_reducible first | exact HB.out | apply below_alloc | apply pw_below_drewN | apply below_drew1 | refine below_set ?_ GE357.out) | exact HB.out)); (case side2 => exact HR0.out); (case side3 => exact HC0.out); rintro e w13 ⟨g361, rfl, hi, hb, hb2⟩; refine ⟨_, rfl, ?_⟩; have n0_ := Aside0.mk (blk_below (g := gb357) (o := .cells #[.int .i64 0, .slice none 0 0] 24 (0, 0)) (bk_ BK357) hb2); have n1_ := Aside0.mk (hb); have n2_ := Aside0.mk (hi); have n3_ := Aside0.mk (IsS85.ne_blk hi (blk_below (g := gb357) (o := .cells #[.int .i64 0, .slice none 0 0] 24 (0, 0)) (bk_ BK357) hb2) (by decide)); have n4_ := Aside0.mk (Ne.symm (IsS85.ne_blk hi (blk_below (g := gb357) (o := .cells #[.int .i64 0, .slice none 0 0] 24 (0, 0)) (bk_ BK357) hb2) (by decide))); clear BK357; clear HB; have BK357 := n0_; have HB := n1_; have HI361 := n2_; have NB361_357 := n3_; have NB357_361 := n4_; clear n0_ n1_ n2_ n3_ n4_; (try clear hb); (try clear hb2); (try clear hk); (try clear hi)) | ((with_reducible refine gate_callee (f := 76) rfl ?_); refine goesL_ (some 9) rfl rfl Try.func76 (by kernel_rfl) rfl #[.pointer (some ⟨g361, 0, none⟩)] rfl mt_ ?_; (with_reducible refine (spec_l01Cur_badSlab.calls k g361 t358 t359 t360 t362 t363 t366 t367 w _ ?side1 ?side2 A3.out).mono ?_); (case side1 => repeat (first | (with_reducible first | exact HI361.out | apply IsS85.alloc | apply IsS85.drewN | apply IsS85.drew | apply IsS85.set_1 | apply IsS85.set_2 | refine IsS85.far ?_ NB361_357.out _) | exact HI361.out)); (case side2 => repeat (first | (with_reducible first | exact HB.out | apply below_alloc | apply pw_below_drewN | apply below_drew1 | refine below_set ?_ (IsS85.ge HI361.out) | refine below_set ?_ GE357.out) | exact HB.out)); rintro e w14 ⟨v364, rfl, ho0, hi, hb, hk⟩; refine ⟨_, rfl, ?_⟩; have n0_ := Aside0.mk (KeepBut.blk hk (g' := gb357) (o := .cells #[.int .i64 0, .slice none 0 0] 24 (0, 0)) (bk_ BK357) NB357_361.out (by simp)); have n1_ := Aside0.mk (Kd.R_lower ho0 (below_size (by repeat (first | (with_reducible first | exact HB.out | apply below_alloc | apply pw_below_drewN | apply below_drew1 | refine below_set ?_ (IsS85.ge HI361.out) | refine below_set ?_ GE357.out) | exact HB.out)))); have n2_ := Aside0.mk (hb); have n3_ := Aside0.mk (hi); clear BK357; clear HB; clear HI361; have BK357 := n0_; have HO365 := n1_; have HB := n2_; have HI361 := n3_; clear n0_ n1_ n2_ n3_; (try clear hb); (try clear hb2); (try clear hk); (try clear hi); (try clear ho0)) | ((with_reducible refine gate_dst (N := 5) rfl ?_); refine box_event ?hg (N := 5) ?hd (cs := #[.int .i64 0, .slice none 0 0]) (t := 24) ?hr ?_; (case hd => rfl); (case hg => rfl); (case hr => first | (go_simp; done) | (go_simp; rfl)); intro gb368 hg w15 hbox hb; have n0_ := Aside0.mk (Kd.R_below (kr_ HO365) hb); have n1_ := Aside0.mk (blk_below (g := gb357) (o := .cells #[.int .i64 0, .slice none 0 0] 24 (0, 0)) (bk_ BK357) hb); have n2_ := Aside0.mk (IsS85.below (by repeat (first | (with_reducible first | exact HI361.out | apply IsS85.alloc | apply IsS85.drewN | apply IsS85.drew | apply IsS85.set_1 | apply IsS85.set_2 | refine IsS85.far ?_ NB361_357.out _) | exact HI361.out)) hb); have n3_ := Aside0.mk (below_step (by repeat (first | (with_reducible first | exact HB.out | apply below_alloc | apply pw_below_drewN | apply below_drew1 | refine below_set ?_ (IsS85.ge HI361.out) | refine below_set ?_ GE357.out) | exact HB.out)) hb); have n4_ := Aside0.mk (hbox); have n5_ := Aside0.mk ((by rw [hg]; exact (below_size (by repeat (first | (with_reducible first | exact HB.out | apply below_alloc | apply pw_below_drewN | apply below_drew1 | refine below_set ?_ (IsS85.ge HI361.out) | refine below_set ?_ GE357.out) | exact HB.out))) : w.heap.size ≤ gb368)); have n6_ := Aside0.mk ((by rw [hg]; exact (below_size (by repeat (first | (with_reducible first | exact HB.out | apply below_alloc | apply pw_below_drewN | apply below_drew1 | refine below_set ?_ (IsS85.ge HI361.out) | refine below_set ?_ GE357.out) | exact HB.out))) : w.heap.size ≤ gb368)); have n7_ := Aside0.mk ((by rw [hg]; exact Nat.ne_of_lt (blk_lt (g := gb357) (o := .cells #[.int .i64 0, .slice none 0 0] 24 (0, 0)) (bk_ BK357)) : gb357 ≠ gb368)); have n8_ := Aside0.mk ((by rw [hg]; exact Nat.ne_of_gt (blk_lt (g := gb357) (o := .cells #[.int .i64 0, .slice none 0 0] 24 (0, 0)) (bk_ BK357)) : gb368 ≠ gb357)); have n9_ := Aside0.mk ((by rw [hg]; exact Nat.ne_of_lt (IsS85.lt (show IsS85 w _ g361 t358 t366 t367 from by repeat (first | (with_reducible first | exact HI361.out | apply IsS85.alloc | apply IsS85.drewN | apply IsS85.drew | apply IsS85.set_1 | apply IsS85.set_2 | refine IsS85.far ?_ NB361_357.out _) | exact HI361.out))) : g361 ≠ gb368)); have n10_ := Aside0.mk ((by rw [hg]; exact Nat.ne_of_gt (IsS85.lt (show IsS85 w _ g361 t358 t366 t367 from by repeat (first | (with_reducible first | exact HI361.out | apply IsS85.alloc | apply IsS85.drewN | apply IsS85.drew | apply IsS85.set_1 | apply IsS85.set_2 | refine IsS85.far ?_ NB361_357.out _) | exact HI361.out))) : gb368 ≠ g361)); clear HO365; clear BK357; clear HI361; clear HB; have HO365 := n0_; have BK357 := n1_; have HI361 := n2_; have HB := n3_; have BK368 := n4_; have GW368 := n5_; have GE368 := n6_; have NB357_368 := n7_; have NB368_357 := n8_; have NB361_368 := n9_; have NB368_361 := n10_; clear n0_ n1_ n2_ n3_ n4_ n5_ n6_ n7_ n8_ n9_ n10_; clear hb hbox hg; have hnb16 := NB368_357.out; have hnc16 := NB357_368.out; have hnb17 := NB368_361.out; have hnc17 := NB361_368.out; have hcz18_0 : w15.cell? ⟨gb368, 0, none⟩ = some (.int .i64 0) := (blk_cell BK368.out 0).trans rfl; have hcz18_1 : w15.cell? ⟨gb368, 1, none⟩ = some (.slice none 0 0) := (blk_cell BK368.out 1).trans rfl; have hfz18_0 := blk_frozen BK368.out 0; have hfz18_1 := blk_frozen BK368.out 1; obtain ⟨Ao19, co19, eo19⟩ := Kd.R_slice HO365.out; subst eo19))
   have pi383 : (0 ≤ (t380 : Int)) = True := eq_true (of_decide_eq_true (by first | (with_reducible assumption) | assumption))
   have qi383 : (t380 < (y377.length : Int)) = True := eq_true (of_decide_eq_true (by first | (with_reducible assumption) | assumption))
   have n0_ : Aside0 (Kd.R (Kd.int .i64) 3 ((w15.setCell ⟨gb368, 0, none⟩ (.int .i64 t362)).setCell ⟨gb368, 1, none⟩ (.slice Ao19 t363.length co19)) w.heap.size (fun _ => True) (.slice Ao19 t363.length co19) t363) := ⟨by (with_reducible repeat (first | apply Kd.R_alloc | apply Kd.R_drewN | apply Kd.R_drew)); exact Kd.R_mono (Kd.R_far (p := ⟨gb368, 1, none⟩) (Kd.R_far (p := ⟨gb368, 0, none⟩) (Kd.R_types HO365.out BK368.out (by decide)) (fun _ hk => by first | exact hk.2 | grind) (.int .i64 t362)) (fun _ hk => by first | exact hk.2 | grind) (.slice Ao19 t363.length co19)) (fun _ hk => by first | exact trivial | grind)⟩
   have n1_ : Aside0 (((w15.setCell ⟨gb368, 0, none⟩ (.int .i64 t362)).setCell ⟨gb368, 1, none⟩ (.slice Ao19 t363.length co19)).heap[gb357]? = some (.cells #[.int .i64 0, .slice none 0 0] 24 (0, 0))) := ⟨by (with_reducible repeat (first | refine blk_drewN ?_ _ | refine blk_drew ?_ | refine blk_alloc ?_ _)); refine blk_far ?_ NB357_368.out _; (with_reducible repeat (first | refine blk_drewN ?_ _ | refine blk_drew ?_ | refine blk_alloc ?_ _)); refine blk_far ?_ NB357_368.out _; exact bk_ BK357⟩
   have n2_ : Aside0 (((w15.setCell ⟨gb368, 0, none⟩ (.int .i64 t362)).setCell ⟨gb368, 1, none⟩ (.slice Ao19 t363.length co19)).heap[gb368]? = some (.cells #[.int .i64 t362, .slice Ao19 t363.length co19] 24 (0, 0))) := ⟨by (with_reducible repeat (first | refine blk_drewN ?_ _ | refine blk_drew ?_ | refine blk_alloc ?_ _)); refine blk_put (cs := #[.int .i64 t362, .slice none 0 0]) ?_ 1 _ rfl; (with_reducible repeat (first | refine blk_drewN ?_ _ | refine blk_drew ?_ | refine blk_alloc ?_ _)); refine blk_put (cs := #[.int .i64 0, .slice none 0 0]) ?_ 0 _ rfl; exact bk_ BK368⟩
   have n3_ : Aside0 (IsS85 w ((w15.setCell ⟨gb368, 0, none⟩ (.int .i64 t362)).setCell ⟨gb368, 1, none⟩ (.slice Ao19 t363.length co19)) g361 t358 t366 t367) := ⟨by repeat (first | (with_reducible first | exact HI361.out | apply IsS85.alloc | apply IsS85.drewN | apply IsS85.drew | apply IsS85.set_1 | apply IsS85.set_2 | refine IsS85.far ?_ NB361_357.out _ | refine IsS85.far ?_ NB361_368.out _) | exact HI361.out)⟩
   have n4_ : Aside0 (Below w.heap.size w ((w15.setCell ⟨gb368, 0, none⟩ (.int .i64 t362)).setCell ⟨gb368, 1, none⟩ (.slice Ao19 t363.length co19))) := ⟨by repeat (first | (with_reducible first | exact HB.out | apply below_alloc | apply pw_below_drewN | apply below_drew1 | refine below_set ?_ (IsS85.ge HI361.out) | refine below_set ?_ GE357.out | refine below_set ?_ GE368.out) | exact HB.out)⟩
   (try clear HO365)
   (try clear BK357)
   (try clear BK368)
   (try clear HI361)
   (try clear HB)
   generalize ((w15.setCell ⟨gb368, 0, none⟩ (.int .i64 t362)).setCell ⟨gb368, 1, none⟩ (.slice Ao19 t363.length co19)) = w20 at n0_ n1_ n2_ n3_ n4_ ⊢
   have HO365 := n0_
   have BK357 := n1_
   have BK368 := n2_
   have HI361 := n3_
   have HB := n4_
   clear n0_ n1_ n2_ n3_ n4_
   have n0_ := Aside0.mk (Kd.R_drew HO365.out)
   have n1_ := Aside0.mk (blk_drew BK357.out)
   have n2_ := Aside0.mk (blk_drew BK368.out)
   have n3_ := Aside0.mk (IsS85.drew HI361.out)
   have n4_ := Aside0.mk (below_drew1 HB.out)
   clear HO365
   clear BK357
   clear BK368
   clear HI361
   clear HB
   have HO365 := n0_
   have BK357 := n1_
   have BK368 := n2_
   have HI361 := n3_
   have HB := n4_
   clear n0_ n1_ n2_ n3_ n4_
   refine start_ (n := 19) (S := fun w' => True) (ds := []) (bs 19 0) (by kernel_rfl) rfl rfl trivial (fun hHeld => ?_); refine with_tabW spec_DrawSlabTake.tab3 spec_DrawSlabTake.bits3 (fun HT_ HW_ => ?_)
   generalize w20.drew = w21 at HO365 BK357 BK368 HI361 HB hHeld ⊢
   refine pure_s (i := 1) (N := some 11) #[oF,oT,oF,oF,oF,oF,oF,oF,oF,oF,oF,oF,oF,oF,oF,oF,oF,oF,oF] (any_of HT_.out (by kernel_rfl)) (h := ?_)
   refine pure_s (i := 4) (N := some 14) #[oF,oT,oF,oF,oT,oF,oF,oF,oF,oF,oF,oF,oF,oF,oF,oF,oF,oF,oF] (any_of HT_.out (by kernel_rfl)) (h := ?_)
   refine pure_s (i := 13) (N := some 23) #[oF,oT,oF,oF,oT,oF,oF,oF,oF,oF,oF,oF,oF,oT,oF,oF,oF,oF,oF] (any_of HT_.out (by kernel_rfl)) (h := ?_)
   refine inv_at [0, 2, 3, 5, 6, 7, 8, 9, 10, 11, 12, 14, 15, 16, 17, 18] (fun a0_ b a w' => ∃ (v378 : Value) (adz_v378 : Addr) (m15_ : Value), a = putSel a0_ b [(0, 10, .agg #[.int .i64 t362, .slice Ao19 t363.length co19]), (2, 12, .int .i64 t369), (3, 13, .int .i64 (wrap64 (1 + t369))), (5, 15, .int .i64 t372), (6, 16, .agg #[.int .i64 t362, .slice Ao19 t363.length co19]), (7, 17, .int .i64 t375), (8, 18, .int .i64 ji7), (9, 19, .agg #[.int .i64 t362, .slice Ao19 t363.length co19]), (10, 20, .int .i64 t376), (11, 21, .int .i64 (wrap64 (t376 + 1))), (12, 22, v378), (14, 24, .int .i64 t380), (15, 25, m15_), (16, 26, .int .i64 (rd y377 t380)), (18, 3, .int .i64 (rd y377 t380))] ∧ (Kd.R (Kd.int .i64) 3 w' w.heap.size (fun _ => True) (.slice Ao19 t363.length co19) t363) ∧ (b 17 = false → w'.heap[gb357]? = some (.cells #[.int .i64 0, .slice none 0 0] 24 (0, 0))) ∧ (w'.heap[gb368]? = some (.cells #[.int .i64 t362, .slice Ao19 t363.length co19] 24 (0, 0))) ∧ (b 2 = false → IsS85 w w' g361 t358 t366 t367) ∧ (Below w.heap.size w w') ∧ (b 2 = true → b 5 = false → IsS85 w w' g361 t358 t370 t371) ∧ (b 5 = true → b 14 = false → IsS85 w w' g361 t358 t373 t374) ∧ (b 12 = true → Kd.R (Kd.int .i64) 3 w' w.heap.size (fun k_ => some k_ ≠ (.slice Ao19 t363.length co19 : Value).ownBlock) v378 y377) ∧ (b 12 = true → ∃ c_, (v378 : Value) = .slice (some adz_v378) y377.length c_) ∧ (b 14 = true → IsS85 w w' g361 t358 t381 t382) ∧ (b 17 = true → w'.heap[gb357]? = some (.cells #[.int .i64 t362, .slice Ao19 t363.length co19] 24 (0, 0))) ∧ (b 15 = true → (m15_ : Value) = .pointer (some (adz_v378.add (t380).toNat)))) HT_.out HW_.out (by kernel_rfl) (by kernel_rfl) ?_ ?_ ?_
   ·exact ⟨.bool false, ⟨0, 0, none⟩, .bool false, by simp only [putSel, Bool.false_eq_true, if_false], HO365.out, fun _ => BK357.out, BK368.out, fun _ => HI361.out, HB.out, fun h_ => absurd h_ (by decide), fun h_ => absurd h_ (by decide), fun h_ => absurd h_ (by decide), fun h_ => absurd h_ (by decide), fun h_ => absurd h_ (by decide), fun h_ => absurd h_ (by decide), fun h_ => absurd h_ (by decide)⟩
   ·skip
    clear BK357 BK368 HB HI361 HO365
    refine steps_cons ?_ ?_
    ·rintro b a w' ⟨v378, adz_v378, m15_, ha, Q_HO365, Q_BK357, Q_BK368, Q_HI361, Q_HB, Q_HI361_e2, Q_HI361_e5, Q_HO379, Q_HA_HO379, Q_HI361_e14, Q_BK357_e17, Q_X15_⟩ hb_ hon hoff
     refine ⟨_, rfl, fun K hK => ?_⟩
     have e5 : a.tmps[5]? = some (.pointer (some ⟨gb368, 0, none⟩)) := by rw [ha]; exact (putSel_off rfl).trans rfl
     replace ha := Aside0.mk ha
     have HO365 := Aside0.mk Q_HO365
     have BK357 := Aside0.mk (Q_BK357 (hoff 17 (by kernel_rfl)))
     have BK368 := Aside0.mk Q_BK368
     have HB := Aside0.mk Q_HB
     have hc0_ : w'.cell? ⟨gb368, 0, none⟩ = some (.int .i64 t362) := (blk_cell BK368.out 0).trans rfl
     have hc1_ : w'.cell? ⟨gb368, 1, none⟩ = some (.slice Ao19 t363.length co19) := (blk_cell BK368.out 1).trans rfl
     refine value_ (w1 := w') (v := .agg #[.int .i64 t362, .slice Ao19 t363.length co19]) (by rfl) rfl ?_ ?_
     ·go_simp
      (try simp only [i64_w])
      try rfl
     refine hK.out _ _ ⟨v378, adz_v378, m15_, (by rw [ha.out]; exact putSel_upk 0 hb_ rfl rfl rfl), Q_HO365, Q_BK357, Q_BK368, Q_HI361, Q_HB, Q_HI361_e2, Q_HI361_e5, Q_HO379, Q_HA_HO379, Q_HI361_e14, fun h0_ => absurd ((hoff 17 (by kernel_rfl)).symm.trans h0_) (by decide), Q_X15_⟩
    refine steps_cons ?_ ?_
    ·rintro b a w' ⟨v378, adz_v378, m15_, ha, Q_HO365, Q_BK357, Q_BK368, Q_HI361, Q_HB, Q_HI361_e2, Q_HI361_e5, Q_HO379, Q_HA_HO379, Q_HI361_e14, Q_BK357_e17, Q_X15_⟩ hb_ hon hoff
     refine ⟨_, rfl, fun K hK => ?_⟩
     have e11 : a.tmps[11]? = some (.pointer (some ⟨g361, 0, none⟩)) := by rw [ha]; exact (putSel_off rfl).trans rfl
     replace ha := Aside0.mk ha
     have HO365 := Aside0.mk Q_HO365
     have BK357 := Aside0.mk (Q_BK357 (hoff 17 (by kernel_rfl)))
     have BK368 := Aside0.mk Q_BK368
     have HI361 := Aside0.mk (Q_HI361 hb_)
     have HB := Aside0.mk Q_HB
     refine goes_ Try.func77 (by kernel_rfl) rfl #[.pointer (some ⟨g361, 0, none⟩), .int .i64 6] (by rfl) rfl rfl (by first | (simp only [List.map_toArray, List.map_cons, List.map_nil, Act.eval, Array.getD_eq_getD_getElem?, Option.getD_some, e11]; done) | (simp only [List.map_toArray, List.map_cons, List.map_nil, Act.eval, Array.getD_eq_getD_getElem?, Option.getD_some, e11]; rfl)) ?_
     with_reducible refine (spec_l01Cur_pick.calls g361 t358 t366 t367 6 t369 t370 t371 w _ ?side1 ?side2 A4.out).mono ?_
     (case side1 => repeat (first | (with_reducible first | exact HI361.out | apply IsS85.alloc | apply IsS85.drewN | apply IsS85.drew | apply IsS85.set_1 | apply IsS85.set_2 | refine IsS85.far ?_ NB361_357.out _ | refine IsS85.far ?_ NB361_368.out _) | exact HI361.out))
     (case side2 => repeat (first | (with_reducible first | exact HB.out | apply below_alloc | apply pw_below_drewN | apply below_drew1 | refine below_set ?_ (IsS85.ge HI361.out) | refine below_set ?_ GE357.out | refine below_set ?_ GE368.out) | exact HB.out))
     rintro e w22 ⟨rfl, hi, hb, hk⟩
     refine ⟨_, rfl, ?_⟩
     have n0_ := Aside0.mk (KeepBut.blk hk (g' := gb357) (o := .cells #[.int .i64 0, .slice none 0 0] 24 (0, 0)) (bk_ BK357) NB357_361.out (by simp))
     have n1_ := Aside0.mk (Kd.R_mono (Kd.R_keep (IsS85.apart (show IsS85 w _ g361 t358 t366 t367 from by repeat (first | (with_reducible first | exact HI361.out | apply IsS85.alloc | apply IsS85.drewN | apply IsS85.drew | apply IsS85.set_1 | apply IsS85.set_2 | refine IsS85.far ?_ NB361_357.out _ | refine IsS85.far ?_ NB361_368.out _) | exact HI361.out)) (kr_ HO365) (by decide)) hk (fun _ h => h.2)) (fun _ h => h.1))
     have n2_ := Aside0.mk (KeepBut.blk hk (g' := gb368) (o := .cells #[.int .i64 t362, .slice Ao19 t363.length co19] 24 (0, 0)) (bk_ BK368) NB368_361.out (by simp))
     have n3_ := Aside0.mk (hb)
     have n4_ := Aside0.mk (hi)
     clear BK357
     clear HO365
     clear BK368
     clear HB
     clear HI361
     have BK357 := n0_
     have HO365 := n1_
     have BK368 := n2_
     have HB := n3_
     have HI361 := n4_
     clear n0_ n1_ n2_ n3_ n4_
     (try clear hb)
     (try clear hb2)
     (try clear hk)
     (try clear hi)
     refine hK.out _ _ ⟨v378, adz_v378, m15_, (by rw [ha.out]; exact putSel_upk 1 hb_ rfl rfl rfl), (kr_ HO365), fun _ => (bk_ BK357), (bk_ BK368), fun h0_ => absurd ((up_self b 2).symm.trans h0_) (by decide), (by repeat (first | (with_reducible first | exact HB.out | apply below_alloc | apply pw_below_drewN | apply below_drew1 | refine below_set ?_ (IsS85.ge HI361.out) | refine below_set ?_ GE357.out | refine below_set ?_ GE368.out) | exact HB.out)), fun _ _ => (by repeat (first | (with_reducible first | exact HI361.out | apply IsS85.alloc | apply IsS85.drewN | apply IsS85.drew | apply IsS85.set_1 | apply IsS85.set_2 | refine IsS85.far ?_ NB361_357.out _ | refine IsS85.far ?_ NB361_368.out _) | exact HI361.out)), fun h0_ _ => absurd ((hoff 5 (by kernel_rfl)).symm.trans h0_) (by decide), fun h0_ => absurd ((hoff 12 (by kernel_rfl)).symm.trans h0_) (by decide), fun h0_ => absurd ((hoff 12 (by kernel_rfl)).symm.trans h0_) (by decide), fun h0_ => absurd ((hoff 14 (by kernel_rfl)).symm.trans h0_) (by decide), fun h0_ => absurd ((hoff 17 (by kernel_rfl)).symm.trans h0_) (by decide), fun h0_ => absurd ((hoff 15 (by kernel_rfl)).symm.trans h0_) (by decide)⟩
    refine steps_cons ?_ ?_
    ·rintro b a w' ⟨v378, adz_v378, m15_, ha, Q_HO365, Q_BK357, Q_BK368, Q_HI361, Q_HB, Q_HI361_e2, Q_HI361_e5, Q_HO379, Q_HA_HO379, Q_HI361_e14, Q_BK357_e17, Q_X15_⟩ hb_ hon hoff
     refine ⟨_, rfl, fun K hK => ?_⟩
     have e12 : a.tmps[12]? = some (.int .i64 t369) := by rw [ha]; exact putSel_on (e := (2, 12, .int .i64 t369)) 1 rfl rfl (hon 2 (by kernel_rfl)) rfl
     replace ha := Aside0.mk ha
     have HO365 := Aside0.mk Q_HO365
     have BK368 := Aside0.mk Q_BK368
     have HB := Aside0.mk Q_HB
     refine value_ (w1 := w') (v := .int .i64 (wrap64 (1 + t369))) (by rfl) rfl ?_ ?_
     ·go_simp
      (try simp only [i64_w])
      try rfl
     refine hK.out _ _ ⟨v378, adz_v378, m15_, (by rw [ha.out]; exact putSel_upk 2 hb_ rfl rfl rfl), Q_HO365, Q_BK357, Q_BK368, fun h0_ => absurd ((hon 2 (by kernel_rfl)).symm.trans h0_) (by decide), Q_HB, Q_HI361_e2, Q_HI361_e5, fun h0_ => absurd ((hoff 12 (by kernel_rfl)).symm.trans h0_) (by decide), fun h0_ => absurd ((hoff 12 (by kernel_rfl)).symm.trans h0_) (by decide), Q_HI361_e14, Q_BK357_e17, fun h0_ => absurd ((hoff 15 (by kernel_rfl)).symm.trans h0_) (by decide)⟩
    refine steps_cons ?_ ?_
    ·rintro b a w' ⟨v378, adz_v378, m15_, ha, Q_HO365, Q_BK357, Q_BK368, Q_HI361, Q_HB, Q_HI361_e2, Q_HI361_e5, Q_HO379, Q_HA_HO379, Q_HI361_e14, Q_BK357_e17, Q_X15_⟩ hb_ hon hoff
     refine ⟨_, rfl, fun K hK => ?_⟩
     have e14 : a.tmps[14]? = some (.pointer (some ⟨g361, 0, none⟩)) := by rw [ha]; exact (putSel_off rfl).trans rfl
     replace ha := Aside0.mk ha
     have HO365 := Aside0.mk Q_HO365
     have BK357 := Aside0.mk (Q_BK357 (hoff 17 (by kernel_rfl)))
     have BK368 := Aside0.mk Q_BK368
     have HB := Aside0.mk Q_HB
     have HI361 := Aside0.mk (Q_HI361_e2 (hon 2 (by kernel_rfl)) hb_)
     refine goes_ Try.func78 (by kernel_rfl) rfl #[.pointer (some ⟨g361, 0, none⟩)] (by rfl) rfl rfl (by first | (simp only [List.map_toArray, List.map_cons, List.map_nil, Act.eval, Array.getD_eq_getD_getElem?, Option.getD_some, e14]; done) | (simp only [List.map_toArray, List.map_cons, List.map_nil, Act.eval, Array.getD_eq_getD_getElem?, Option.getD_some, e14]; rfl)) ?_
     with_reducible refine (spec_l01Cur_raw.calls g361 t358 t370 t371 t372 t373 t374 w _ ?side1 ?side2 A5.out).mono ?_
     (case side1 => repeat (first | (with_reducible first | exact HI361.out | apply IsS85.alloc | apply IsS85.drewN | apply IsS85.drew | apply IsS85.set_1 | apply IsS85.set_2 | refine IsS85.far ?_ NB361_357.out _ | refine IsS85.far ?_ NB361_368.out _) | exact HI361.out))
     (case side2 => repeat (first | (with_reducible first | exact HB.out | apply below_alloc | apply pw_below_drewN | apply below_drew1 | refine below_set ?_ (IsS85.ge HI361.out) | refine below_set ?_ GE357.out | refine below_set ?_ GE368.out) | exact HB.out))
     rintro e w24 ⟨rfl, hi, hb, hk⟩
     refine ⟨_, rfl, ?_⟩
     have n0_ := Aside0.mk (KeepBut.blk hk (g' := gb357) (o := .cells #[.int .i64 0, .slice none 0 0] 24 (0, 0)) (bk_ BK357) NB357_361.out (by simp))
     have n1_ := Aside0.mk (Kd.R_mono (Kd.R_keep (IsS85.apart (show IsS85 w _ g361 t358 t370 t371 from by repeat (first | (with_reducible first | exact HI361.out | apply IsS85.alloc | apply IsS85.drewN | apply IsS85.drew | apply IsS85.set_1 | apply IsS85.set_2 | refine IsS85.far ?_ NB361_357.out _ | refine IsS85.far ?_ NB361_368.out _) | exact HI361.out)) (kr_ HO365) (by decide)) hk (fun _ h => h.2)) (fun _ h => h.1))
     have n2_ := Aside0.mk (KeepBut.blk hk (g' := gb368) (o := .cells #[.int .i64 t362, .slice Ao19 t363.length co19] 24 (0, 0)) (bk_ BK368) NB368_361.out (by simp))
     have n3_ := Aside0.mk (hb)
     have n4_ := Aside0.mk (hi)
     clear BK357
     clear HO365
     clear BK368
     clear HB
     clear HI361
     have BK357 := n0_
     have HO365 := n1_
     have BK368 := n2_
     have HB := n3_
     have HI361 := n4_
     clear n0_ n1_ n2_ n3_ n4_
     (try clear hb)
     (try clear hb2)
     (try clear hk)
     (try clear hi)
     refine hK.out _ _ ⟨v378, adz_v378, m15_, (by rw [ha.out]; exact putSel_upk 3 hb_ rfl rfl rfl), (kr_ HO365), fun _ => (bk_ BK357), (bk_ BK368), fun h0_ => absurd ((hon 2 (by kernel_rfl)).symm.trans h0_) (by decide), (by repeat (first | (with_reducible first | exact HB.out | apply below_alloc | apply pw_below_drewN | apply below_drew1 | refine below_set ?_ (IsS85.ge HI361.out) | refine below_set ?_ GE357.out | refine below_set ?_ GE368.out) | exact HB.out)), fun _ h1_ => absurd ((up_self b 5).symm.trans h1_) (by decide), fun _ _ => (by repeat (first | (with_reducible first | exact HI361.out | apply IsS85.alloc | apply IsS85.drewN | apply IsS85.drew | apply IsS85.set_1 | apply IsS85.set_2 | refine IsS85.far ?_ NB361_357.out _ | refine IsS85.far ?_ NB361_368.out _) | exact HI361.out)), fun h0_ => absurd ((hoff 12 (by kernel_rfl)).symm.trans h0_) (by decide), fun h0_ => absurd ((hoff 12 (by kernel_rfl)).symm.trans h0_) (by decide), fun h0_ => absurd ((hoff 14 (by kernel_rfl)).symm.trans h0_) (by decide), fun h0_ => absurd ((hoff 17 (by kernel_rfl)).symm.trans h0_) (by decide), fun h0_ => absurd ((hoff 15 (by kernel_rfl)).symm.trans h0_) (by decide)⟩
    refine steps_cons ?_ ?_
    ·rintro b a w' ⟨v378, adz_v378, m15_, ha, Q_HO365, Q_BK357, Q_BK368, Q_HI361, Q_HB, Q_HI361_e2, Q_HI361_e5, Q_HO379, Q_HA_HO379, Q_HI361_e14, Q_BK357_e17, Q_X15_⟩ hb_ hon hoff
     refine ⟨_, rfl, fun K hK => ?_⟩
     have e5 : a.tmps[5]? = some (.pointer (some ⟨gb368, 0, none⟩)) := by rw [ha]; exact (putSel_off rfl).trans rfl
     replace ha := Aside0.mk ha
     have HO365 := Aside0.mk Q_HO365
     have BK357 := Aside0.mk (Q_BK357 (hoff 17 (by kernel_rfl)))
     have BK368 := Aside0.mk Q_BK368
     have HB := Aside0.mk Q_HB
     have hc0_ : w'.cell? ⟨gb368, 0, none⟩ = some (.int .i64 t362) := (blk_cell BK368.out 0).trans rfl
     have hc1_ : w'.cell? ⟨gb368, 1, none⟩ = some (.slice Ao19 t363.length co19) := (blk_cell BK368.out 1).trans rfl
     refine value_ (w1 := w') (v := .agg #[.int .i64 t362, .slice Ao19 t363.length co19]) (by rfl) rfl ?_ ?_
     ·go_simp
      (try simp only [i64_w])
      try rfl
     refine hK.out _ _ ⟨v378, adz_v378, m15_, (by rw [ha.out]; exact putSel_upk 4 hb_ rfl rfl rfl), Q_HO365, Q_BK357, Q_BK368, Q_HI361, Q_HB, Q_HI361_e2, Q_HI361_e5, fun h0_ => absurd ((hoff 12 (by kernel_rfl)).symm.trans h0_) (by decide), fun h0_ => absurd ((hoff 12 (by kernel_rfl)).symm.trans h0_) (by decide), fun h0_ => absurd ((hoff 14 (by kernel_rfl)).symm.trans h0_) (by decide), fun h0_ => absurd ((hoff 17 (by kernel_rfl)).symm.trans h0_) (by decide), fun h0_ => absurd ((hoff 15 (by kernel_rfl)).symm.trans h0_) (by decide)⟩
    refine steps_cons ?_ ?_
    ·rintro b a w' ⟨v378, adz_v378, m15_, ha, Q_HO365, Q_BK357, Q_BK368, Q_HI361, Q_HB, Q_HI361_e2, Q_HI361_e5, Q_HO379, Q_HA_HO379, Q_HI361_e14, Q_BK357_e17, Q_X15_⟩ hb_ hon hoff
     refine ⟨_, rfl, fun K hK => ?_⟩
     have e16 : a.tmps[16]? = some (.agg #[.int .i64 t362, .slice Ao19 t363.length co19]) := by rw [ha]; exact putSel_on (e := (6, 16, .agg #[.int .i64 t362, .slice Ao19 t363.length co19])) 4 rfl rfl (hon 6 (by kernel_rfl)) rfl
     replace ha := Aside0.mk ha
     have HO365 := Aside0.mk Q_HO365
     have BK357 := Aside0.mk (Q_BK357 (hoff 17 (by kernel_rfl)))
     have BK368 := Aside0.mk Q_BK368
     have HB := Aside0.mk Q_HB
     have HI361 := Aside0.mk (Q_HI361_e5 (hon 5 (by kernel_rfl)) (hoff 14 (by kernel_rfl)))
     refine goes_ Try.func31 (by kernel_rfl) rfl #[.agg #[.int .i64 t362, .slice Ao19 t363.length co19]] (by rfl) rfl rfl (by first | (simp only [List.map_toArray, List.map_cons, List.map_nil, Act.eval, Array.getD_eq_getD_getElem?, Option.getD_some, e16]; done) | (simp only [List.map_toArray, List.map_cons, List.map_nil, Act.eval, Array.getD_eq_getD_getElem?, Option.getD_some, e16]; rfl)) ?_
     with_reducible refine (spec_SlabRoom.calls k t362 _ _ t363 t375 _ ?side1 ?side2 A6.out).mono ?_
     (case side1 => repeat (first | exact (Kd.R_reads' HO365.out).2.2 | (with_reducible refine Kd.C_alloc ?_ _) | (with_reducible refine Kd.C_drewN ?_ _) | (with_reducible refine Kd.C_drew ?_)))
     (case side2 => exact (Kd.R_reads' HO365.out).2.1)
     rintro e w25 ⟨rfl, hb⟩
     refine ⟨_, rfl, ?_⟩
     have n0_ := Aside0.mk (Kd.R_below (kr_ HO365) hb)
     have n1_ := Aside0.mk (blk_below (g := gb357) (o := .cells #[.int .i64 0, .slice none 0 0] 24 (0, 0)) (bk_ BK357) hb)
     have n2_ := Aside0.mk (IsS85.below (by repeat (first | (with_reducible first | exact HI361.out | apply IsS85.alloc | apply IsS85.drewN | apply IsS85.drew | apply IsS85.set_1 | apply IsS85.set_2 | refine IsS85.far ?_ NB361_357.out _ | refine IsS85.far ?_ NB361_368.out _) | exact HI361.out)) hb)
     have n3_ := Aside0.mk (blk_below (g := gb368) (o := .cells #[.int .i64 t362, .slice Ao19 t363.length co19] 24 (0, 0)) (bk_ BK368) hb)
     have n4_ := Aside0.mk (below_step (by repeat (first | (with_reducible first | exact HB.out | apply below_alloc | apply pw_below_drewN | apply below_drew1 | refine below_set ?_ (IsS85.ge HI361.out) | refine below_set ?_ GE357.out | refine below_set ?_ GE368.out) | exact HB.out)) hb)
     clear HO365
     clear BK357
     clear HI361
     clear BK368
     clear HB
     have HO365 := n0_
     have BK357 := n1_
     have HI361 := n2_
     have BK368 := n3_
     have HB := n4_
     clear n0_ n1_ n2_ n3_ n4_
     (try clear hb)
     (try clear hb2)
     (try clear hk)
     (try clear hi)
     refine hK.out _ _ ⟨v378, adz_v378, m15_, (by rw [ha.out]; exact putSel_upk 5 hb_ rfl rfl rfl), (kr_ HO365), fun _ => (bk_ BK357), (bk_ BK368), fun h0_ => absurd ((hon 2 (by kernel_rfl)).symm.trans h0_) (by decide), (by repeat (first | (with_reducible first | exact HB.out | apply below_alloc | apply pw_below_drewN | apply below_drew1 | refine below_set ?_ (IsS85.ge HI361.out) | refine below_set ?_ GE357.out | refine below_set ?_ GE368.out) | exact HB.out)), fun _ h1_ => absurd ((hon 5 (by kernel_rfl)).symm.trans h1_) (by decide), fun _ _ => (by repeat (first | (with_reducible first | exact HI361.out | apply IsS85.alloc | apply IsS85.drewN | apply IsS85.drew | apply IsS85.set_1 | apply IsS85.set_2 | refine IsS85.far ?_ NB361_357.out _ | refine IsS85.far ?_ NB361_368.out _) | exact HI361.out)), fun h0_ => absurd ((hoff 12 (by kernel_rfl)).symm.trans h0_) (by decide), fun h0_ => absurd ((hoff 12 (by kernel_rfl)).symm.trans h0_) (by decide), fun h0_ => absurd ((hoff 14 (by kernel_rfl)).symm.trans h0_) (by decide), fun h0_ => absurd ((hoff 17 (by kernel_rfl)).symm.trans h0_) (by decide), fun h0_ => absurd ((hoff 15 (by kernel_rfl)).symm.trans h0_) (by decide)⟩
    refine steps_cons ?_ ?_
    ·rintro b a w' ⟨v378, adz_v378, m15_, ha, Q_HO365, Q_BK357, Q_BK368, Q_HI361, Q_HB, Q_HI361_e2, Q_HI361_e5, Q_HO379, Q_HA_HO379, Q_HI361_e14, Q_BK357_e17, Q_X15_⟩ hb_ hon hoff
     refine ⟨_, rfl, fun K hK => ?_⟩
     have e17 : a.tmps[17]? = some (.int .i64 t375) := by rw [ha]; exact putSel_on (e := (7, 17, .int .i64 t375)) 5 rfl rfl (hon 7 (by kernel_rfl)) rfl
     replace ha := Aside0.mk ha
     have HO365 := Aside0.mk Q_HO365
     have BK368 := Aside0.mk Q_BK368
     have HB := Aside0.mk Q_HB
     refine value_ (w1 := w') (v := .int .i64 ji7) (by rfl) rfl ?_ ?_
     ·go_simp
      (try simp only [i64_w])
      try rfl
     refine hK.out _ _ ⟨v378, adz_v378, m15_, (by rw [ha.out]; exact putSel_upk 6 hb_ rfl rfl rfl), Q_HO365, Q_BK357, Q_BK368, fun h0_ => absurd ((hon 2 (by kernel_rfl)).symm.trans h0_) (by decide), Q_HB, fun _ h1_ => absurd ((hon 5 (by kernel_rfl)).symm.trans h1_) (by decide), Q_HI361_e5, fun h0_ => absurd ((hoff 12 (by kernel_rfl)).symm.trans h0_) (by decide), fun h0_ => absurd ((hoff 12 (by kernel_rfl)).symm.trans h0_) (by decide), Q_HI361_e14, Q_BK357_e17, fun h0_ => absurd ((hoff 15 (by kernel_rfl)).symm.trans h0_) (by decide)⟩
    refine steps_cons ?_ ?_
    ·rintro b a w' ⟨v378, adz_v378, m15_, ha, Q_HO365, Q_BK357, Q_BK368, Q_HI361, Q_HB, Q_HI361_e2, Q_HI361_e5, Q_HO379, Q_HA_HO379, Q_HI361_e14, Q_BK357_e17, Q_X15_⟩ hb_ hon hoff
     refine ⟨_, rfl, fun K hK => ?_⟩
     have e5 : a.tmps[5]? = some (.pointer (some ⟨gb368, 0, none⟩)) := by rw [ha]; exact (putSel_off rfl).trans rfl
     replace ha := Aside0.mk ha
     have HO365 := Aside0.mk Q_HO365
     have BK357 := Aside0.mk (Q_BK357 (hoff 17 (by kernel_rfl)))
     have BK368 := Aside0.mk Q_BK368
     have HB := Aside0.mk Q_HB
     have hc0_ : w'.cell? ⟨gb368, 0, none⟩ = some (.int .i64 t362) := (blk_cell BK368.out 0).trans rfl
     have hc1_ : w'.cell? ⟨gb368, 1, none⟩ = some (.slice Ao19 t363.length co19) := (blk_cell BK368.out 1).trans rfl
     refine value_ (w1 := w') (v := .agg #[.int .i64 t362, .slice Ao19 t363.length co19]) (by rfl) rfl ?_ ?_
     ·go_simp
      (try simp only [i64_w])
      try rfl
     refine hK.out _ _ ⟨v378, adz_v378, m15_, (by rw [ha.out]; exact putSel_upk 7 hb_ rfl rfl rfl), Q_HO365, Q_BK357, Q_BK368, Q_HI361, Q_HB, Q_HI361_e2, Q_HI361_e5, fun h0_ => absurd ((hoff 12 (by kernel_rfl)).symm.trans h0_) (by decide), fun h0_ => absurd ((hoff 12 (by kernel_rfl)).symm.trans h0_) (by decide), fun h0_ => absurd ((hoff 14 (by kernel_rfl)).symm.trans h0_) (by decide), fun h0_ => absurd ((hoff 17 (by kernel_rfl)).symm.trans h0_) (by decide), fun h0_ => absurd ((hoff 15 (by kernel_rfl)).symm.trans h0_) (by decide)⟩
    refine steps_cons ?_ ?_
    ·rintro b a w' ⟨v378, adz_v378, m15_, ha, Q_HO365, Q_BK357, Q_BK368, Q_HI361, Q_HB, Q_HI361_e2, Q_HI361_e5, Q_HO379, Q_HA_HO379, Q_HI361_e14, Q_BK357_e17, Q_X15_⟩ hb_ hon hoff
     refine ⟨_, rfl, fun K hK => ?_⟩
     have e19 : a.tmps[19]? = some (.agg #[.int .i64 t362, .slice Ao19 t363.length co19]) := by rw [ha]; exact putSel_on (e := (9, 19, .agg #[.int .i64 t362, .slice Ao19 t363.length co19])) 7 rfl rfl (hon 9 (by kernel_rfl)) rfl
     replace ha := Aside0.mk ha
     have HO365 := Aside0.mk Q_HO365
     have BK357 := Aside0.mk (Q_BK357 (hoff 17 (by kernel_rfl)))
     have BK368 := Aside0.mk Q_BK368
     have HB := Aside0.mk Q_HB
     have HI361 := Aside0.mk (Q_HI361_e5 (hon 5 (by kernel_rfl)) (hoff 14 (by kernel_rfl)))
     refine goes_ Try.func31 (by kernel_rfl) rfl #[.agg #[.int .i64 t362, .slice Ao19 t363.length co19]] (by rfl) rfl rfl (by first | (simp only [List.map_toArray, List.map_cons, List.map_nil, Act.eval, Array.getD_eq_getD_getElem?, Option.getD_some, e19]; done) | (simp only [List.map_toArray, List.map_cons, List.map_nil, Act.eval, Array.getD_eq_getD_getElem?, Option.getD_some, e19]; rfl)) ?_
     with_reducible refine (spec_SlabRoom.calls k t362 _ _ t363 t376 _ ?side1 ?side2 A8.out).mono ?_
     (case side1 => repeat (first | exact (Kd.R_reads' HO365.out).2.2 | (with_reducible refine Kd.C_alloc ?_ _) | (with_reducible refine Kd.C_drewN ?_ _) | (with_reducible refine Kd.C_drew ?_)))
     (case side2 => exact (Kd.R_reads' HO365.out).2.1)
     rintro e w26 ⟨rfl, hb⟩
     refine ⟨_, rfl, ?_⟩
     have n0_ := Aside0.mk (Kd.R_below (kr_ HO365) hb)
     have n1_ := Aside0.mk (blk_below (g := gb357) (o := .cells #[.int .i64 0, .slice none 0 0] 24 (0, 0)) (bk_ BK357) hb)
     have n2_ := Aside0.mk (IsS85.below (by repeat (first | (with_reducible first | exact HI361.out | apply IsS85.alloc | apply IsS85.drewN | apply IsS85.drew | apply IsS85.set_1 | apply IsS85.set_2 | refine IsS85.far ?_ NB361_357.out _ | refine IsS85.far ?_ NB361_368.out _) | exact HI361.out)) hb)
     have n3_ := Aside0.mk (blk_below (g := gb368) (o := .cells #[.int .i64 t362, .slice Ao19 t363.length co19] 24 (0, 0)) (bk_ BK368) hb)
     have n4_ := Aside0.mk (below_step (by repeat (first | (with_reducible first | exact HB.out | apply below_alloc | apply pw_below_drewN | apply below_drew1 | refine below_set ?_ (IsS85.ge HI361.out) | refine below_set ?_ GE357.out | refine below_set ?_ GE368.out) | exact HB.out)) hb)
     clear HO365
     clear BK357
     clear HI361
     clear BK368
     clear HB
     have HO365 := n0_
     have BK357 := n1_
     have HI361 := n2_
     have BK368 := n3_
     have HB := n4_
     clear n0_ n1_ n2_ n3_ n4_
     (try clear hb)
     (try clear hb2)
     (try clear hk)
     (try clear hi)
     refine hK.out _ _ ⟨v378, adz_v378, m15_, (by rw [ha.out]; exact putSel_upk 8 hb_ rfl rfl rfl), (kr_ HO365), fun _ => (bk_ BK357), (bk_ BK368), fun h0_ => absurd ((hon 2 (by kernel_rfl)).symm.trans h0_) (by decide), (by repeat (first | (with_reducible first | exact HB.out | apply below_alloc | apply pw_below_drewN | apply below_drew1 | refine below_set ?_ (IsS85.ge HI361.out) | refine below_set ?_ GE357.out | refine below_set ?_ GE368.out) | exact HB.out)), fun _ h1_ => absurd ((hon 5 (by kernel_rfl)).symm.trans h1_) (by decide), fun _ _ => (by repeat (first | (with_reducible first | exact HI361.out | apply IsS85.alloc | apply IsS85.drewN | apply IsS85.drew | apply IsS85.set_1 | apply IsS85.set_2 | refine IsS85.far ?_ NB361_357.out _ | refine IsS85.far ?_ NB361_368.out _) | exact HI361.out)), fun h0_ => absurd ((hoff 12 (by kernel_rfl)).symm.trans h0_) (by decide), fun h0_ => absurd ((hoff 12 (by kernel_rfl)).symm.trans h0_) (by decide), fun h0_ => absurd ((hoff 14 (by kernel_rfl)).symm.trans h0_) (by decide), fun h0_ => absurd ((hoff 17 (by kernel_rfl)).symm.trans h0_) (by decide), fun h0_ => absurd ((hoff 15 (by kernel_rfl)).symm.trans h0_) (by decide)⟩
    refine steps_cons ?_ ?_
    ·rintro b a w' ⟨v378, adz_v378, m15_, ha, Q_HO365, Q_BK357, Q_BK368, Q_HI361, Q_HB, Q_HI361_e2, Q_HI361_e5, Q_HO379, Q_HA_HO379, Q_HI361_e14, Q_BK357_e17, Q_X15_⟩ hb_ hon hoff
     refine ⟨_, rfl, fun K hK => ?_⟩
     have e20 : a.tmps[20]? = some (.int .i64 t376) := by rw [ha]; exact putSel_on (e := (10, 20, .int .i64 t376)) 8 rfl rfl (hon 10 (by kernel_rfl)) rfl
     replace ha := Aside0.mk ha
     have HO365 := Aside0.mk Q_HO365
     have BK368 := Aside0.mk Q_BK368
     have HB := Aside0.mk Q_HB
     refine value_ (w1 := w') (v := .int .i64 (wrap64 (t376 + 1))) (by rfl) rfl ?_ ?_
     ·go_simp
      (try simp only [i64_w])
      try rfl
     refine hK.out _ _ ⟨v378, adz_v378, m15_, (by rw [ha.out]; exact putSel_upk 9 hb_ rfl rfl rfl), Q_HO365, Q_BK357, Q_BK368, fun h0_ => absurd ((hon 2 (by kernel_rfl)).symm.trans h0_) (by decide), Q_HB, fun _ h1_ => absurd ((hon 5 (by kernel_rfl)).symm.trans h1_) (by decide), Q_HI361_e5, fun h0_ => absurd ((hoff 12 (by kernel_rfl)).symm.trans h0_) (by decide), fun h0_ => absurd ((hoff 12 (by kernel_rfl)).symm.trans h0_) (by decide), Q_HI361_e14, Q_BK357_e17, fun h0_ => absurd ((hoff 15 (by kernel_rfl)).symm.trans h0_) (by decide)⟩
    refine steps_cons ?_ ?_
    ·rintro b a w' ⟨v378, adz_v378, m15_, ha, Q_HO365, Q_BK357, Q_BK368, Q_HI361, Q_HB, Q_HI361_e2, Q_HI361_e5, Q_HO379, Q_HA_HO379, Q_HI361_e14, Q_BK357_e17, Q_X15_⟩ hb_ hon hoff
     refine ⟨_, rfl, fun K hK => ?_⟩
     have e13 : a.tmps[13]? = some (.int .i64 (wrap64 (1 + t369))) := by rw [ha]; exact putSel_on (e := (3, 13, .int .i64 (wrap64 (1 + t369)))) 2 rfl rfl (hon 3 (by kernel_rfl)) rfl
     have e15 : a.tmps[15]? = some (.int .i64 t372) := by rw [ha]; exact putSel_on (e := (5, 15, .int .i64 t372)) 3 rfl rfl (hon 5 (by kernel_rfl)) rfl
     have e18 : a.tmps[18]? = some (.int .i64 ji7) := by rw [ha]; exact putSel_on (e := (8, 18, .int .i64 ji7)) 6 rfl rfl (hon 8 (by kernel_rfl)) rfl
     have e21 : a.tmps[21]? = some (.int .i64 (wrap64 (t376 + 1))) := by rw [ha]; exact putSel_on (e := (11, 21, .int .i64 (wrap64 (t376 + 1)))) 9 rfl rfl (hon 11 (by kernel_rfl)) rfl
     replace ha := Aside0.mk ha
     have HO365 := Aside0.mk Q_HO365
     have BK368 := Aside0.mk Q_BK368
     have HB := Aside0.mk Q_HB
     refine Kd.R_lit_step (Kd.int .i64) _ 3 ?hg (N := 22) ?hd (xs := ([wrap64 (1 + t369), t372, ji7, wrap64 (t376 + 1)] : List Int)) (inner := [.int .i64 (wrap64 (1 + t369)), .int .i64 t372, .int .i64 ji7, .int .i64 (wrap64 (t376 + 1))]) (ok := fun _ => True) (okp := fun _ => True) ?hr ?hp (fun _ hk => by first | exact hk | grind) trivial (Below.refl _ _) (Nat.le_refl _) (by simp) ?_; (case hd => rfl); (case hg => rfl); (case hr => first | (go_simp; done) | (go_simp; rfl)); (case hp => exact (Reps.one (show Kd.M (Kd.int .i64) _ _ _ (wrap64 (1 + t369)) [.int .i64 (wrap64 (1 + t369))] from rfl) (Reps.one (show Kd.M (Kd.int .i64) _ _ _ t372 [.int .i64 t372] from rfl) (Reps.one (show Kd.M (Kd.int .i64) _ _ _ ji7 [.int .i64 ji7] from rfl) (Reps.one (show Kd.M (Kd.int .i64) _ _ _ (wrap64 (t376 + 1)) [.int .i64 (wrap64 (t376 + 1))] from rfl) (Reps.none _ _))))))
     intro v378 w27 ho28 hb hg_ hnew_
     clear hg_ hnew_
     (first | rw [← Ny377.out] at ho28 | (simp only [Int.reduceToNat] at ho28; rw [← Ny377.out] at ho28))
     have n0_ := Aside0.mk (Kd.R_elder' (kr_ HO365) (Kd.R_base ho28) hb)
     have n1_ := Aside0.mk (Kd.R_lower (Kd.R_new' ho28 (Kd.R_lt (kr_ HO365))) (below_size (by repeat (first | (with_reducible first | exact HB.out | apply below_alloc | apply pw_below_drewN | apply below_drew1 | refine below_set ?_ GE357.out | refine below_set ?_ GE368.out) | exact HB.out))))
     have n4_ := Aside0.mk (blk_below (g := gb368) (o := .cells #[.int .i64 t362, .slice Ao19 t363.length co19] 24 (0, 0)) (bk_ BK368) hb)
     have n5_ := Aside0.mk (below_step (by repeat (first | (with_reducible first | exact HB.out | apply below_alloc | apply pw_below_drewN | apply below_drew1 | refine below_set ?_ GE357.out | refine below_set ?_ GE368.out) | exact HB.out)) hb)
     have z_BK357 := fun (h0_ : b 17 = false) => (show w27.heap[gb357]? = some (.cells #[.int .i64 0, .slice none 0 0] 24 (0, 0)) from by first | exact (blk_below (g := gb357) (o := .cells #[.int .i64 0, .slice none 0 0] 24 (0, 0)) (by (with_reducible repeat (first | refine blk_drewN ?_ _ | refine blk_drew ?_ | refine blk_alloc ?_ _)); exact (Q_BK357 h0_)) hb))
     have z_HI361_e5 := fun (h0_ : b 5 = true) (h1_ : b 14 = false) => (show IsS85 w w27 g361 t358 t373 t374 from by first | exact (IsS85.below (by repeat (first | (with_reducible first | exact (Q_HI361_e5 h0_ h1_) | apply IsS85.alloc | apply IsS85.drewN | apply IsS85.drew | apply IsS85.set_1 | apply IsS85.set_2 | refine IsS85.far ?_ NB361_357.out _ | refine IsS85.far ?_ NB361_368.out _) | exact (Q_HI361_e5 h0_ h1_))) hb))
     have z_HI361_e14 := fun (h0_ : b 14 = true) => (show IsS85 w w27 g361 t358 t381 t382 from by first | exact (IsS85.below (by repeat (first | (with_reducible first | exact (Q_HI361_e14 h0_) | apply IsS85.alloc | apply IsS85.drewN | apply IsS85.drew | apply IsS85.set_1 | apply IsS85.set_2 | refine IsS85.far ?_ NB361_357.out _ | refine IsS85.far ?_ NB361_368.out _) | exact (Q_HI361_e14 h0_))) hb))
     have z_BK357_e17 := fun (h0_ : b 17 = true) => (show w27.heap[gb357]? = some (.cells #[.int .i64 t362, .slice Ao19 t363.length co19] 24 (0, 0)) from by first | exact (blk_below (g := gb357) (o := .cells #[.int .i64 t362, .slice Ao19 t363.length co19] 24 (0, 0)) (by (with_reducible repeat (first | refine blk_drewN ?_ _ | refine blk_drew ?_ | refine blk_alloc ?_ _)); exact (Q_BK357_e17 h0_)) hb))
     clear HO365
     clear BK368
     clear HB
     have HO365 := n0_
     have HO379 := n1_
     have BK368 := n4_
     have HB := n5_
     clear n0_ n1_ n4_ n5_
     clear hb ho28
     obtain ⟨Ao29, co29, eo29⟩ := Kd.R_slice HO379.out
     subst eo29
     obtain ⟨ado29, fo29, _⟩ := Kd.at_int (Kd.R_reads' HO379.out).2.2 0 (by decide) (by rw [Ny377.out]; simp)
     cases fo29
     refine hK.out _ _ ⟨.slice (some ado29) y377.length co29, ado29, m15_, (by rw [ha.out]; exact putSel_upk 10 hb_ rfl rfl rfl), (by (with_reducible repeat (first | apply Kd.R_alloc | apply Kd.R_drewN | apply Kd.R_drew)); exact Kd.R_mono HO365.out (fun _ hk => by first | exact hk.2 | grind)), z_BK357, (bk_ BK368), fun h0_ => absurd ((hon 2 (by kernel_rfl)).symm.trans h0_) (by decide), (by repeat (first | (with_reducible first | exact HB.out | apply below_alloc | apply pw_below_drewN | apply below_drew1 | refine below_set ?_ GE357.out | refine below_set ?_ GE368.out) | exact HB.out)), fun _ h1_ => absurd ((hon 5 (by kernel_rfl)).symm.trans h1_) (by decide), z_HI361_e5, fun _ => (by (with_reducible repeat (first | apply Kd.R_alloc | apply Kd.R_drewN | apply Kd.R_drew)); exact Kd.R_mono HO379.out (fun _ hk => by first | exact hk.2 | grind)), fun _ => ⟨_, rfl⟩, z_HI361_e14, z_BK357_e17, fun h0_ => absurd ((hoff 15 (by kernel_rfl)).symm.trans h0_) (by decide)⟩
    refine steps_cons ?_ ?_
    ·rintro b a w' ⟨v378, adz_v378, m15_, ha, Q_HO365, Q_BK357, Q_BK368, Q_HI361, Q_HB, Q_HI361_e2, Q_HI361_e5, Q_HO379, Q_HA_HO379, Q_HI361_e14, Q_BK357_e17, Q_X15_⟩ hb_ hon hoff
     refine ⟨_, rfl, fun K hK => ?_⟩
     have e23 : a.tmps[23]? = some (.pointer (some ⟨g361, 0, none⟩)) := by rw [ha]; exact (putSel_off rfl).trans rfl
     replace ha := Aside0.mk ha
     have HO365 := Aside0.mk Q_HO365
     have BK357 := Aside0.mk (Q_BK357 (hoff 17 (by kernel_rfl)))
     have BK368 := Aside0.mk Q_BK368
     have HB := Aside0.mk Q_HB
     have HI361 := Aside0.mk (Q_HI361_e5 (hon 5 (by kernel_rfl)) hb_)
     refine goes_ Try.func77 (by kernel_rfl) rfl #[.pointer (some ⟨g361, 0, none⟩), .int .i64 4] (by rfl) rfl rfl (by first | (simp only [List.map_toArray, List.map_cons, List.map_nil, Act.eval, Array.getD_eq_getD_getElem?, Option.getD_some, e23]; done) | (simp only [List.map_toArray, List.map_cons, List.map_nil, Act.eval, Array.getD_eq_getD_getElem?, Option.getD_some, e23]; rfl)) ?_
     with_reducible refine (spec_l01Cur_pick.calls g361 t358 t373 t374 4 t380 t381 t382 w _ ?side1 ?side2 A9.out).mono ?_
     (case side1 => repeat (first | (with_reducible first | exact HI361.out | apply IsS85.alloc | apply IsS85.drewN | apply IsS85.drew | apply IsS85.set_1 | apply IsS85.set_2 | refine IsS85.far ?_ NB361_357.out _ | refine IsS85.far ?_ NB361_368.out _) | exact HI361.out))
     (case side2 => repeat (first | (with_reducible first | exact HB.out | apply below_alloc | apply pw_below_drewN | apply below_drew1 | refine below_set ?_ (IsS85.ge HI361.out) | refine below_set ?_ GE357.out | refine below_set ?_ GE368.out) | exact HB.out))
     rintro e w27 ⟨rfl, hi, hb, hk⟩
     refine ⟨_, rfl, ?_⟩
     have n0_ := Aside0.mk (KeepBut.blk hk (g' := gb357) (o := .cells #[.int .i64 0, .slice none 0 0] 24 (0, 0)) (bk_ BK357) NB357_361.out (by simp))
     have n1_ := Aside0.mk (Kd.R_mono (Kd.R_keep (IsS85.apart (show IsS85 w _ g361 t358 t373 t374 from by repeat (first | (with_reducible first | exact HI361.out | apply IsS85.alloc | apply IsS85.drewN | apply IsS85.drew | apply IsS85.set_1 | apply IsS85.set_2 | refine IsS85.far ?_ NB361_357.out _ | refine IsS85.far ?_ NB361_368.out _) | exact HI361.out)) (kr_ HO365) (by decide)) hk (fun _ h => h.2)) (fun _ h => h.1))
     have n2_ := Aside0.mk (KeepBut.blk hk (g' := gb368) (o := .cells #[.int .i64 t362, .slice Ao19 t363.length co19] 24 (0, 0)) (bk_ BK368) NB368_361.out (by simp))
     have n3_ := Aside0.mk (hb)
     have n4_ := Aside0.mk (hi)
     have z_HO379 := fun (h0_ : b 12 = true) => (show Kd.R (Kd.int .i64) 3 w27 w.heap.size (fun k_ => some k_ ≠ (.slice Ao19 t363.length co19 : Value).ownBlock) v378 y377 from by first | exact (Kd.R_mono (Kd.R_keep (IsS85.apart (show IsS85 w _ g361 t358 t373 t374 from by repeat (first | (with_reducible first | exact HI361.out | apply IsS85.alloc | apply IsS85.drewN | apply IsS85.drew | apply IsS85.set_1 | apply IsS85.set_2 | refine IsS85.far ?_ NB361_357.out _ | refine IsS85.far ?_ NB361_368.out _) | exact HI361.out)) (by (with_reducible repeat (first | apply Kd.R_alloc | apply Kd.R_drewN | apply Kd.R_drew)); exact (Q_HO379 h0_)) (by decide)) hk (fun _ h => h.2)) (fun _ h => h.1)) | exact Kd.R_mono (Kd.R_mono (Kd.R_keep (IsS85.apart (show IsS85 w _ g361 t358 t373 t374 from by repeat (first | (with_reducible first | exact HI361.out | apply IsS85.alloc | apply IsS85.drewN | apply IsS85.drew | apply IsS85.set_1 | apply IsS85.set_2 | refine IsS85.far ?_ NB361_357.out _ | refine IsS85.far ?_ NB361_368.out _) | exact HI361.out)) (by (with_reducible repeat (first | apply Kd.R_alloc | apply Kd.R_drewN | apply Kd.R_drew)); exact (Q_HO379 h0_)) (by decide)) hk (fun _ h => h.2)) (fun _ h => h.1)) (fun _ h_ => by first | trivial | exact h_ | exact h_.1))
     clear BK357
     clear HO365
     clear BK368
     clear HB
     clear HI361
     have BK357 := n0_
     have HO365 := n1_
     have BK368 := n2_
     have HB := n3_
     have HI361 := n4_
     clear n0_ n1_ n2_ n3_ n4_
     (try clear hb)
     (try clear hb2)
     (try clear hk)
     (try clear hi)
     refine hK.out _ _ ⟨v378, adz_v378, m15_, (by rw [ha.out]; exact putSel_upk 11 hb_ rfl rfl rfl), (kr_ HO365), fun _ => (bk_ BK357), (bk_ BK368), fun h0_ => absurd ((hon 2 (by kernel_rfl)).symm.trans h0_) (by decide), (by repeat (first | (with_reducible first | exact HB.out | apply below_alloc | apply pw_below_drewN | apply below_drew1 | refine below_set ?_ (IsS85.ge HI361.out) | refine below_set ?_ GE357.out | refine below_set ?_ GE368.out) | exact HB.out)), fun _ h1_ => absurd ((hon 5 (by kernel_rfl)).symm.trans h1_) (by decide), fun _ h1_ => absurd ((up_self b 14).symm.trans h1_) (by decide), z_HO379, Q_HA_HO379, fun _ => (by repeat (first | (with_reducible first | exact HI361.out | apply IsS85.alloc | apply IsS85.drewN | apply IsS85.drew | apply IsS85.set_1 | apply IsS85.set_2 | refine IsS85.far ?_ NB361_357.out _ | refine IsS85.far ?_ NB361_368.out _) | exact HI361.out)), fun h0_ => absurd ((hoff 17 (by kernel_rfl)).symm.trans h0_) (by decide), fun h0_ => absurd ((hoff 15 (by kernel_rfl)).symm.trans h0_) (by decide)⟩
    refine steps_cons ?_ ?_
    ·rintro b a w' ⟨v378, adz_v378, m15_, ha, Q_HO365, Q_BK357, Q_BK368, Q_HI361, Q_HB, Q_HI361_e2, Q_HI361_e5, Q_HO379, Q_HA_HO379, Q_HI361_e14, Q_BK357_e17, Q_X15_⟩ hb_ hon hoff
     refine ⟨_, rfl, fun K hK => ?_⟩
     have e22 : a.tmps[22]? = some (v378) := by rw [ha]; exact putSel_on (e := (12, 22, v378)) 10 rfl rfl (hon 12 (by kernel_rfl)) rfl
     have e24 : a.tmps[24]? = some (.int .i64 t380) := by rw [ha]; exact putSel_on (e := (14, 24, .int .i64 t380)) 11 rfl rfl (hon 14 (by kernel_rfl)) rfl
     replace ha := Aside0.mk ha
     have HO365 := Aside0.mk Q_HO365
     have BK368 := Aside0.mk Q_BK368
     have HB := Aside0.mk Q_HB
     have HO379 := Aside0.mk (Q_HO379 (hon 12 (by kernel_rfl)))
     have HA_HO379 := Aside0.mk (Q_HA_HO379 (hon 12 (by kernel_rfl)))
     have HI361 := Aside0.mk (Q_HI361_e14 (hon 14 (by kernel_rfl)))
     obtain ⟨c_, hv_⟩ := HA_HO379.out
     rw [hv_] at e22
     refine value_ (w1 := w') (v := .pointer (some (adz_v378.add (t380).toNat))) (by rfl) rfl ?_ ?_
     ·go_simp
      (try simp only [i64_w])
      try rfl
     refine hK.out _ _ ⟨v378, adz_v378, (.pointer (some (adz_v378.add (t380).toNat))), (by rw [ha.out]; exact putSel_upk 12 hb_ rfl rfl rfl), Q_HO365, Q_BK357, Q_BK368, fun h0_ => absurd ((hon 2 (by kernel_rfl)).symm.trans h0_) (by decide), Q_HB, fun _ h1_ => absurd ((hon 5 (by kernel_rfl)).symm.trans h1_) (by decide), fun _ h1_ => absurd ((hon 14 (by kernel_rfl)).symm.trans h1_) (by decide), Q_HO379, Q_HA_HO379, Q_HI361_e14, Q_BK357_e17, fun _ => rfl⟩
    refine steps_cons ?_ ?_
    ·rintro b a w' ⟨v378, adz_v378, m15_, ha, Q_HO365, Q_BK357, Q_BK368, Q_HI361, Q_HB, Q_HI361_e2, Q_HI361_e5, Q_HO379, Q_HA_HO379, Q_HI361_e14, Q_BK357_e17, Q_X15_⟩ hb_ hon hoff
     refine ⟨_, rfl, fun K hK => ?_⟩
     have e25 : a.tmps[25]? = some (m15_) := by rw [ha]; exact putSel_on (e := (15, 25, m15_)) 12 rfl rfl (hon 15 (by kernel_rfl)) rfl
     rw [Q_X15_ (hon 15 (by kernel_rfl))] at e25
     replace ha := Aside0.mk ha
     have HO365 := Aside0.mk Q_HO365
     have BK368 := Aside0.mk Q_BK368
     have HB := Aside0.mk Q_HB
     have HO379 := Aside0.mk (Q_HO379 (hon 12 (by kernel_rfl)))
     have HA_HO379 := Aside0.mk (Q_HA_HO379 (hon 12 (by kernel_rfl)))
     have HI361 := Aside0.mk (Q_HI361_e14 (hon 14 (by kernel_rfl)))
     obtain ⟨c_, hv_⟩ := HA_HO379.out
     have hF_ := HO379.out
     rw [hv_] at hF_
     obtain ⟨ad_, ea_, hx_⟩ := Kd.at_int (Kd.R_reads' hF_).2.2 t380 (of_eq_true pi383) (of_eq_true qi383)
     cases ea_
     refine value_ (w1 := w') (v := .int .i64 (rd y377 t380)) (by rfl) rfl ?_ ?_
     ·go_simp
      (try simp only [i64_w])
      try rfl
     refine hK.out _ _ ⟨v378, adz_v378, m15_, (by rw [ha.out]; exact putSel_upk 13 hb_ rfl rfl rfl), Q_HO365, Q_BK357, Q_BK368, fun h0_ => absurd ((hon 2 (by kernel_rfl)).symm.trans h0_) (by decide), Q_HB, fun _ h1_ => absurd ((hon 5 (by kernel_rfl)).symm.trans h1_) (by decide), fun _ h1_ => absurd ((hon 14 (by kernel_rfl)).symm.trans h1_) (by decide), Q_HO379, Q_HA_HO379, Q_HI361_e14, Q_BK357_e17, Q_X15_⟩
    refine steps_cons ?_ ?_
    ·rintro b a w' ⟨v378, adz_v378, m15_, ha, Q_HO365, Q_BK357, Q_BK368, Q_HI361, Q_HB, Q_HI361_e2, Q_HI361_e5, Q_HO379, Q_HA_HO379, Q_HI361_e14, Q_BK357_e17, Q_X15_⟩ hb_ hon hoff
     refine ⟨_, rfl, fun K hK => ?_⟩
     have e2 : a.tmps[2]? = some (.pointer (some ⟨gb357, 0, none⟩)) := by rw [ha]; exact (putSel_off rfl).trans rfl
     have e10 : a.tmps[10]? = some (.agg #[.int .i64 t362, .slice Ao19 t363.length co19]) := by rw [ha]; exact putSel_on (e := (0, 10, .agg #[.int .i64 t362, .slice Ao19 t363.length co19])) 0 rfl rfl (hon 0 (by kernel_rfl)) rfl
     replace ha := Aside0.mk ha
     have HO365 := Aside0.mk Q_HO365
     have BK357 := Aside0.mk (Q_BK357 hb_)
     have BK368 := Aside0.mk Q_BK368
     have HB := Aside0.mk Q_HB
     have HI361 := Aside0.mk (Q_HI361_e14 (hon 14 (by kernel_rfl)))
     have hs28 : w'.cell? ⟨gb357, 0, none⟩ = some (.int .i64 0) := (blk_cell BK357.out 0).trans rfl
     have hfs28 := blk_frozen BK357.out 0
     have hns28_1 := NB368_357.out
     have hms28_1 := NB357_368.out
     have hs29 : w'.cell? ⟨gb357, 1, none⟩ = some (.slice none 0 0) := (blk_cell BK357.out 1).trans rfl
     have hfs29 := blk_frozen BK357.out 1
     have hns29_1 := NB368_357.out
     have hms29_1 := NB357_368.out
     refine skip_ (w1 := ?_) (by rfl) rfl ?_ ?_
     rotate_left
     ·go_simp
      rfl
     refine hK.out _ _ ⟨v378, adz_v378, m15_, (by rw [ha.out]; exact putSel_none (v := undef) rfl), (by (with_reducible repeat (first | apply Kd.R_alloc | apply Kd.R_drewN | apply Kd.R_drew)); exact Kd.R_mono (Kd.R_far (p := ⟨gb357, 1, none⟩) (Kd.R_far (p := ⟨gb357, 0, none⟩) (Kd.R_types HO365.out BK357.out (by decide)) (fun _ hk => by first | exact hk.2 | grind) (.int .i64 t362)) (fun _ hk => by first | exact hk.2 | grind) (.slice Ao19 t363.length co19)) (fun _ hk => by first | exact trivial | grind)), fun h0_ => absurd ((up_self b 17).symm.trans h0_) (by decide), (by (with_reducible repeat (first | refine blk_drewN ?_ _ | refine blk_drew ?_ | refine blk_alloc ?_ _)); refine blk_far ?_ NB368_357.out _; (with_reducible repeat (first | refine blk_drewN ?_ _ | refine blk_drew ?_ | refine blk_alloc ?_ _)); refine blk_far ?_ NB368_357.out _; exact bk_ BK368), fun h0_ => absurd ((hon 2 (by kernel_rfl)).symm.trans h0_) (by decide), (by repeat (first | (with_reducible first | exact HB.out | apply below_alloc | apply pw_below_drewN | apply below_drew1 | refine below_set ?_ (IsS85.ge HI361.out) | refine below_set ?_ GE357.out | refine below_set ?_ GE368.out) | exact HB.out)), fun _ h1_ => absurd ((hon 5 (by kernel_rfl)).symm.trans h1_) (by decide), fun _ h1_ => absurd ((hon 14 (by kernel_rfl)).symm.trans h1_) (by decide), fun h0_ => (by (with_reducible repeat (first | apply Kd.R_alloc | apply Kd.R_drewN | apply Kd.R_drew)); exact Kd.R_mono (Kd.R_far (p := ⟨gb357, 1, none⟩) (Kd.R_far (p := ⟨gb357, 0, none⟩) (Kd.R_types (Q_HO379 h0_) BK357.out (by decide)) (fun _ hk => by first | exact hk.2 | grind) (.int .i64 t362)) (fun _ hk => by first | exact hk.2 | grind) (.slice Ao19 t363.length co19)) (fun _ hk => by first | exact hk.1 | grind)), Q_HA_HO379, fun _ => (by repeat (first | (with_reducible first | exact HI361.out | apply IsS85.alloc | apply IsS85.drewN | apply IsS85.drew | apply IsS85.set_1 | apply IsS85.set_2 | refine IsS85.far ?_ NB361_357.out _ | refine IsS85.far ?_ NB361_368.out _) | exact HI361.out)), fun _ => (by (with_reducible repeat (first | refine blk_drewN ?_ _ | refine blk_drew ?_ | refine blk_alloc ?_ _)); refine blk_put (cs := #[.int .i64 t362, .slice none 0 0]) ?_ 1 _ rfl; (with_reducible repeat (first | refine blk_drewN ?_ _ | refine blk_drew ?_ | refine blk_alloc ?_ _)); refine blk_put (cs := #[.int .i64 0, .slice none 0 0]) ?_ 0 _ rfl; exact bk_ BK357), Q_X15_⟩
    refine steps_cons ?_ ?_
    ·rintro b a w' ⟨v378, adz_v378, m15_, ha, Q_HO365, Q_BK357, Q_BK368, Q_HI361, Q_HB, Q_HI361_e2, Q_HI361_e5, Q_HO379, Q_HA_HO379, Q_HI361_e14, Q_BK357_e17, Q_X15_⟩ hb_ hon hoff
     refine ⟨_, rfl, fun K hK => ?_⟩
     have e26 : a.tmps[26]? = some (.int .i64 (rd y377 t380)) := by rw [ha]; exact putSel_on (e := (16, 26, .int .i64 (rd y377 t380))) 13 rfl rfl (hon 16 (by kernel_rfl)) rfl
     replace ha := Aside0.mk ha
     have HO365 := Aside0.mk Q_HO365
     have BK368 := Aside0.mk Q_BK368
     have HB := Aside0.mk Q_HB
     have HO379 := Aside0.mk (Q_HO379 (hon 12 (by kernel_rfl)))
     have HA_HO379 := Aside0.mk (Q_HA_HO379 (hon 12 (by kernel_rfl)))
     have HI361 := Aside0.mk (Q_HI361_e14 (hon 14 (by kernel_rfl)))
     have BK357 := Aside0.mk (Q_BK357_e17 (hon 17 (by kernel_rfl)))
     refine value_ (w1 := w') (v := .int .i64 (rd y377 t380)) (by rfl) rfl ?_ ?_
     ·go_simp
      (try simp only [i64_w])
      try rfl
     refine hK.out _ _ ⟨v378, adz_v378, m15_, (by rw [ha.out]; exact putSel_upk 14 hb_ rfl rfl rfl), Q_HO365, fun h0_ => absurd ((hon 17 (by kernel_rfl)).symm.trans h0_) (by decide), Q_BK368, fun h0_ => absurd ((hon 2 (by kernel_rfl)).symm.trans h0_) (by decide), Q_HB, fun _ h1_ => absurd ((hon 5 (by kernel_rfl)).symm.trans h1_) (by decide), fun _ h1_ => absurd ((hon 14 (by kernel_rfl)).symm.trans h1_) (by decide), Q_HO379, Q_HA_HO379, Q_HI361_e14, Q_BK357_e17, Q_X15_⟩
    exact steps_nil
   rintro b a w32 hall ⟨v378, adz_v378, m15_, ha, Q_HO365, Q_BK357, Q_BK368, Q_HI361, Q_HB, Q_HI361_e2, Q_HI361_e5, Q_HO379, Q_HA_HO379, Q_HI361_e14, Q_BK357_e17, Q_X15_⟩
   clear BK357 BK368 HB HI361 HO365
   have hb0_ := hall 0 (by kernel_rfl)
   have hb2_ := hall 2 (by kernel_rfl)
   have hb3_ := hall 3 (by kernel_rfl)
   have hb5_ := hall 5 (by kernel_rfl)
   have hb6_ := hall 6 (by kernel_rfl)
   have hb7_ := hall 7 (by kernel_rfl)
   have hb8_ := hall 8 (by kernel_rfl)
   have hb9_ := hall 9 (by kernel_rfl)
   have hb10_ := hall 10 (by kernel_rfl)
   have hb11_ := hall 11 (by kernel_rfl)
   have hb12_ := hall 12 (by kernel_rfl)
   have hb14_ := hall 14 (by kernel_rfl)
   have hb15_ := hall 15 (by kernel_rfl)
   have hb16_ := hall 16 (by kernel_rfl)
   have hb17_ := hall 17 (by kernel_rfl)
   have hb18_ := hall 18 (by kernel_rfl)
   subst ha
   obtain rfl := Q_X15_ hb15_
   simp only [putSel, hb0_, hb2_, hb3_, hb5_, hb6_, hb7_, hb8_, hb9_, hb10_, hb11_, hb12_, hb14_, hb15_, hb16_, hb17_, hb18_, if_true, Act.put, List.setIfInBounds_toArray, List.set_cons_zero, List.set_cons_succ]
   have HO365 := Aside0.mk Q_HO365
   clear Q_HO365
   clear Q_BK357
   have BK368 := Aside0.mk Q_BK368
   clear Q_BK368
   clear Q_HI361
   have HB := Aside0.mk Q_HB
   clear Q_HB
   clear Q_HI361_e2
   clear Q_HI361_e5
   have HO379 := Aside0.mk (Q_HO379 hb12_)
   clear Q_HO379
   have HA_HO379 := Aside0.mk (Q_HA_HO379 hb12_)
   clear Q_HA_HO379
   have HI361 := Aside0.mk (Q_HI361_e14 hb14_)
   clear Q_HI361_e14
   have BK357 := Aside0.mk (Q_BK357_e17 hb17_)
   clear Q_BK357_e17
   clear hall hb0_ hb2_ hb3_ hb5_ hb6_ hb7_ hb8_ hb9_ hb10_ hb11_ hb12_ hb14_ hb15_ hb16_ hb17_ hb18_
   obtain ⟨co33, eo33⟩ := HA_HO379.out
   clear HA_HO379
   subst eo33
   try go_wp2
   refine bodyPost_ret (results_ct rfl _ _ gb357 24 #[.int .i64 t362, .slice Ao19 t363.length co19] (0, 0) _ rfl (bk_ BK357) Try.underlying24 rfl (by kernel_rfl)) rfl ?_
   exact ⟨_, by first | rfl | (simp [errW_none, errW_some] <;> rfl) | (simp only [← hji7]; first | rfl | (simp [errW_none, errW_some] <;> rfl)) | (simp [*, errW_none, errW_some] <;> rfl), by (with_reducible repeat (first | apply Kd.R_alloc | apply Kd.R_drewN | apply Kd.R_drew)); exact Kd.R_mono HO365.out (fun _ hk => by first | exact trivial | grind), by repeat (first | (with_reducible first | exact HB.out | apply below_alloc | apply pw_below_drewN | apply below_drew1 | refine below_set ?_ (IsS85.ge HI361.out) | refine below_set ?_ GE357.out | refine below_set ?_ GE368.out) | exact HB.out)⟩
  ·rw [if_neg c11] at H
   exact absurd H (by simp)
 ·rw [if_neg c10] at H
  exact absurd H (by simp)

/-! ### laws_same: function 59 -/
def laws_same.l0 : Nat → List Int → List Int → Int → Option (Bool)
  | 0, _, _, _ => none
  | k + 1, x0, x1, x5 => if x5 < (x0.length : Int) then (if 0 ≤ x5 then (if x5 < (x1.length : Int) then (if (rd x0 x5) = (rd x1 x5) then (laws_same.l0 k x0 x1 (wrap64 (x5 + 1))) else (some false)) else (none)) else (none)) else (some true)
def laws_same.f (k : Nat) (l0 : List Int) (l1 : List Int) : Option (Bool) := if (l0.length : Int) = (l1.length : Int) then (laws_same.l0 k l0 l1 0) else (some false)
theorem laws_same.mono_l : ∀ k, (∀ y0 y1 y2, LeO (laws_same.l0 k y0 y1 y2) (laws_same.l0 (k + 1) y0 y1 y2))
 | 0 => fun _ _ _ r h => by simp [laws_same.l0] at h
 | k + 1 => by
  have ih0 := laws_same.mono_l k
  ·intro y0 y1 y2
   unfold laws_same.l0
   repeat' first
   | (with_reducible exact ih0 _ _ _)
   | (with_reducible exact LeO.refl _)
   | (with_reducible exact LeO.none _)
   | (with_reducible refine LeO.ite ?_ ?_)
   | (with_reducible refine LeO.bind ?_ (fun _ => ?_))
   | exact ih0 _ _ _
   | exact LeO.none _
   | refine LeO.ite ?_ ?_
   | refine LeO.bind ?_ (fun _ => ?_)
theorem laws_same.mono : ∀ a0 a1 k, LeO (laws_same.f k a0 a1) (laws_same.f (k + 1) a0 a1) := by
 intro a0 a1 k
 have ih0 := laws_same.mono_l k
 unfold laws_same.f
 repeat' first
   | (with_reducible exact ih0 _ _ _)
   | (with_reducible exact LeO.refl _)
   | (with_reducible exact LeO.none _)
   | (with_reducible refine LeO.ite ?_ ?_)
   | (with_reducible refine LeO.bind ?_ (fun _ => ?_))
   | exact ih0 _ _ _
   | exact LeO.none _
   | refine LeO.ite ?_ ?_
   | refine LeO.bind ?_ (fun _ => ?_)
set_option maxHeartbeats 8000000 in
set_option maxRecDepth 100000 in
theorem laws_same.calls (k : Nat) (A0 : Option Addr) (c0 : Nat) (l0 : List Int) (A1 : Option Addr) (c1 : Nat) (l1 : List Int) (r : Bool) (w : World) (hr0 : Kd.C (Kd.int .i64) w A0 l0.length l0) (hc0 : l0.length ≤ c0) (hr1 : Kd.C (Kd.int .i64) w A1 l1.length l1) (hc1 : l1.length ≤ c1) (h : laws_same.f k l0 l1 = some r) :
  Calls Try.prog 59 #[.slice A0 l0.length c0, .slice A1 l1.length c1] w fun e w' => e = .returned (.bool r) ∧ Drawn0 w w' := by
 have HR0 := Aside0.mk hr0
 have HC0 := Aside0.mk hc0
 clear hr0 hc0
 have HR1 := Aside0.mk hr1
 have HC1 := Aside0.mk hc1
 clear hr1 hc1
 have H : (if (l0.length : Int) = (l1.length : Int) then (laws_same.l0 k l0 l1 0) else (some false)) = some r := h
 clear h
 by_cases c3 : (l0.length : Int) = (l1.length : Int)
 ·rw [if_pos c3] at H
  have c3b0 : ((l0.length : Int) == (l1.length : Int)) = true := beq_iff_eq.mpr c3
  have c3b1 : ((l0.length : Int) != (l1.length : Int)) = false := bne_eq_false_iff_eq.mpr c3
  have c3b2 : (l0.length == l1.length) = true := by first | simpa using c3 | (simp at c3 ⊢; omega)
  clear c3
  have H' := Aside0.mk H
  clear H
  go_enter Try.func59, Try.ntmps59
  go_wp2
  repeat (go_quiet (fail); try go_wp2)
  go_loopg [5] k (fun kq v5 w' => ∃ (x5_1 : Int), v5 = .int .i64 x5_1 ∧ Aside0 (laws_same.l0 kq l0 l1 x5_1 = some r) ∧ Aside0 (kq ≤ k) ∧ Drawn0 w w')
  case atStart => exact ⟨(0), (by first | rfl | (simp; done) | (simp [*]; done)), H', ⟨Nat.le_refl _⟩, by repeat (first | exact Drawn0.refl _ | apply Drawn0.step)⟩
  case round =>
   clear H'
   try clear c1
   try clear p2
   try clear c3
   try clear c3b0
   try clear c3b1
   try clear c3b2
   obtain ⟨x5_1, rfl, HA, HK1, ⟨m1, rfl⟩⟩ := hrel
   cases gk with
   | zero => exact absurd HA.out (by simp [laws_same.l0])
   | succ k1 =>
    have H := HA.out
    clear HA
    simp only [laws_same.l0] at H
    by_cases c4 : x5_1 < (l0.length : Int)
    ·rw [if_pos c4] at H
     have c4b0 : decide (x5_1 < (l0.length : Int)) = true := decide_eq_true c4
     clear c4
     by_cases c5 : 0 ≤ x5_1
     ·rw [if_pos c5] at H
      have c5b0 : decide (0 ≤ x5_1) = true := decide_eq_true c5
      clear c5
      by_cases c6 : x5_1 < (l1.length : Int)
      ·rw [if_pos c6] at H
       have c6b0 : decide (x5_1 < (l1.length : Int)) = true := decide_eq_true c6
       clear c6
       by_cases c7 : (rd l0 x5_1) = (rd l1 x5_1)
       ·rw [if_pos c7] at H
        have c7b0 : ((rd l0 x5_1) == (rd l1 x5_1)) = true := beq_iff_eq.mpr c7
        have c7b1 : ((rd l0 x5_1) != (rd l1 x5_1)) = false := bne_eq_false_iff_eq.mpr c7
        clear c7
        have H' := Aside0.mk H
        clear H
        have p384 : 0 ≤ (x5_1 : Int) := of_decide_eq_true (by first | (with_reducible assumption) | assumption)
        have q384 : x5_1 < (l0.length : Int) := of_decide_eq_true (by first | (with_reducible assumption) | assumption)
        obtain ⟨ad384, e384, hx384_0⟩ := Kd.at_int HR0.out x5_1 p384 q384
        cases e384
        replace p384 := eq_true p384
        replace q384 := eq_true q384
        have p385 : 0 ≤ (x5_1 : Int) := of_decide_eq_true (by first | (with_reducible assumption) | assumption)
        have q385 : x5_1 < (l1.length : Int) := of_decide_eq_true (by first | (with_reducible assumption) | assumption)
        obtain ⟨ad385, e385, hx385_0⟩ := Kd.at_int HR1.out x5_1 p385 q385
        cases e385
        replace p385 := eq_true p385
        replace q385 := eq_true q385
        go_wp2
        repeat (go_quiet (fail); try go_wp2)
        go_roundg k1
        case measure => have := HK1.out; omega
        case rel => exact ⟨(wrap64 (x5_1 + 1)), (by first | rfl | (simp; done) | (simp [*]; done)), H', ⟨by have := HK1.out; omega⟩, by repeat (first | exact Drawn0.refl _ | apply Drawn0.step)⟩
       ·rw [if_neg c7] at H
        have c7b0 : ((rd l0 x5_1) == (rd l1 x5_1)) = false := beq_eq_false_iff_ne.mpr c7
        have c7b1 : ((rd l0 x5_1) != (rd l1 x5_1)) = true := bne_iff_ne.mpr c7
        obtain rfl := Option.some.inj H
        have p384 : 0 ≤ (x5_1 : Int) := of_decide_eq_true (by first | (with_reducible assumption) | assumption)
        have q384 : x5_1 < (l0.length : Int) := of_decide_eq_true (by first | (with_reducible assumption) | assumption)
        obtain ⟨ad384, e384, hx384_0⟩ := Kd.at_int HR0.out x5_1 p384 q384
        cases e384
        replace p384 := eq_true p384
        replace q384 := eq_true q384
        have p385 : 0 ≤ (x5_1 : Int) := of_decide_eq_true (by first | (with_reducible assumption) | assumption)
        have q385 : x5_1 < (l1.length : Int) := of_decide_eq_true (by first | (with_reducible assumption) | assumption)
        obtain ⟨ad385, e385, hx385_0⟩ := Kd.at_int HR1.out x5_1 p385 q385
        cases e385
        replace p385 := eq_true p385
        replace q385 := eq_true q385
        go_wp2
        repeat (go_quiet (fail); try go_wp2)
        go_ret
        exact ⟨by first | rfl | (simp; done) | (simp [*]; done), by repeat (first | exact Drawn0.refl _ | apply Drawn0.step)⟩
      ·rw [if_neg c6] at H
       exact absurd H (by simp)
     ·rw [if_neg c5] at H
      exact absurd H (by simp)
    ·rw [if_neg c4] at H
     have c4b0 : decide (x5_1 < (l0.length : Int)) = false := decide_eq_false c4
     clear c4
     obtain rfl := Option.some.inj H
     go_wp2
     repeat (go_quiet (fail); try go_wp2)
     go_ret
     exact ⟨by first | rfl | (simp; done) | (simp [*]; done), by repeat (first | exact Drawn0.refl _ | apply Drawn0.step)⟩
 ·rw [if_neg c3] at H
  have c3b0 : ((l0.length : Int) == (l1.length : Int)) = false := beq_eq_false_iff_ne.mpr c3
  have c3b1 : ((l0.length : Int) != (l1.length : Int)) = true := bne_iff_ne.mpr c3
  have c3b2 : (l0.length == l1.length) = false := by first | simpa using c3 | (simp at c3 ⊢; omega)
  obtain rfl := Option.some.inj H
  go_enter Try.func59, Try.ntmps59
  go_wp2
  repeat (go_quiet (fail); try go_wp2)
  go_ret
  exact ⟨by first | rfl | (simp; done) | (simp [*]; done), by repeat (first | exact Drawn0.refl _ | apply Drawn0.step)⟩

end Go.Proofs.Ytaglpjlapfocfaa.PFnTakeGive
