-- printed by a program of this session (wip/printx) out of the translation; Lean checks it
import Derived.Test.YtaglpjlapfocfaaXSq
import Derived.Test.YtaglpjlapfocfaaPFnExactStorePutx0
import Derived.Test.YtaglpjlapfocfaaPFnExactStorePutx7
namespace Go.Proofs.Ytaglpjlapfocfaa.PFnExactStorePut
open Go.RowKit Go.Proofs.YtaglpjlapfocfaaW.PrintWords Go.Proofs.YtaglpjlapfocfaaW.PrintLast Go.Proofs.YtaglpjlapfocfaaW.PrintMore
attribute [local go_sem] max2_int min2_int max_two min_two max_three min_three max_four min_four   -- for this text's walks alone
set_option linter.unusedVariables false
set_option linter.unusedSimpArgs false

/-! ### spec_StorePut: function 61 -/
def spec_StorePut.l0 : Nat → List Int → Int → List Int → Int → Int → List Int → List Int → Option (Int × List Int × List Int × Int × Int)
  | 0, _, _, _, _, _, _, _ => none
  | k + 1, x1, x8, x10, x12, x310000, x310001, x310002 => if x12 < (x1.length : Int) then (if 0 ≤ (wrap64 (Int.tdiv x12 16)) then (if (wrap64 (Int.tdiv x12 16)) < (x10.length : Int) then (if 0 ≤ x12 then (if 0 ≤ (wrap64 ((wrap64 ((rd x10 (wrap64 (Int.tdiv x12 16))) * 16)) + (Int.tmod x12 16))) then (if (wrap64 ((wrap64 ((rd x10 (wrap64 (Int.tdiv x12 16))) * 16)) + (Int.tmod x12 16))) < (x310002.length : Int) then (spec_StorePut.l0 k x1 x8 x10 (wrap64 (x12 + 1)) x310000 x310001 (x310002.set ((wrap64 ((wrap64 ((rd x10 (wrap64 (Int.tdiv x12 16))) * 16)) + (Int.tmod x12 16))) : Int).toNat (rd x1 x12))) else (none)) else (none)) else (none)) else (none)) else (none)) else (some (x310000, x310001, x310002, x8, 0))
def spec_StorePut.f (k : Nat) (a0_0 : Int) (l0_1 : List Int) (l0_2 : List Int) (l1 : List Int) : Option (Int × List Int × List Int × Int × Int) := (spec_StoreOk.f k a0_0 l0_1 l0_2).bind fun t291 => (if t291 = true then ((spec_l16Need.f (l1.length : Int)).bind fun t292 => ((spec_SlabTake.f k a0_0 l0_1 t292).bind fun bt293 => (if bt293.2.2.2 = 0 then ((spec_l16Walk.f k bt293.1 bt293.2.1 bt293.2.2.1).bind fun t300 => ((some (([] : List Int) : List Int)).bind fun y303 => (if y303.length + l0_2.length < 140737488355328 then (spec_StorePut.l0 k l1 bt293.2.2.1 t300 0 bt293.1 bt293.2.1 (y303 ++ l0_2)) else (none)))) else (some (0, ([] : List Int), ([] : List Int), (-1), bt293.2.2.2))))) else (some (0, ([] : List Int), ([] : List Int), (-1), 1)))
theorem spec_StorePut.mono_l : ∀ k, (∀ y0 y1 y2 y3 y4 y5 y6, LeO (spec_StorePut.l0 k y0 y1 y2 y3 y4 y5 y6) (spec_StorePut.l0 (k + 1) y0 y1 y2 y3 y4 y5 y6))
 | 0 => fun _ _ _ _ _ _ _ r h => by simp [spec_StorePut.l0] at h
 | k + 1 => by
  have ih0 := spec_StorePut.mono_l k
  ·intro y0 y1 y2 y3 y4 y5 y6
   unfold spec_StorePut.l0
   repeat' first
   | (with_reducible exact ih0 _ _ _ _ _ _ _)
   | (with_reducible exact spec_SlabTake.mono _ _ _ _)
   | (with_reducible exact spec_StoreOk.mono _ _ _ _)
   | (with_reducible exact spec_l16Walk.mono _ _ _ _)
   | (with_reducible exact LeO.refl _)
   | (with_reducible exact LeO.none _)
   | (with_reducible refine LeO.ite ?_ ?_)
   | (with_reducible refine LeO.bind ?_ (fun _ => ?_))
   | exact ih0 _ _ _ _ _ _ _
   | exact spec_SlabTake.mono _ _ _ _
   | exact spec_StoreOk.mono _ _ _ _
   | exact spec_l16Walk.mono _ _ _ _
   | exact LeO.none _
   | refine LeO.ite ?_ ?_
   | refine LeO.bind ?_ (fun _ => ?_)
theorem spec_StorePut.mono : ∀ a0 a1 a2 a3 k, LeO (spec_StorePut.f k a0 a1 a2 a3) (spec_StorePut.f (k + 1) a0 a1 a2 a3) := by
 intro a0 a1 a2 a3 k
 have ih0 := spec_StorePut.mono_l k
 unfold spec_StorePut.f
 repeat' first
   | (with_reducible exact ih0 _ _ _ _ _ _ _)
   | (with_reducible exact spec_SlabTake.mono _ _ _ _)
   | (with_reducible exact spec_StoreOk.mono _ _ _ _)
   | (with_reducible exact spec_l16Walk.mono _ _ _ _)
   | (with_reducible exact LeO.refl _)
   | (with_reducible exact LeO.none _)
   | (with_reducible refine LeO.ite ?_ ?_)
   | (with_reducible refine LeO.bind ?_ (fun _ => ?_))
   | exact ih0 _ _ _ _ _ _ _
   | exact spec_SlabTake.mono _ _ _ _
   | exact spec_StoreOk.mono _ _ _ _
   | exact spec_l16Walk.mono _ _ _ _
   | exact LeO.none _
   | refine LeO.ite ?_ ?_
   | refine LeO.bind ?_ (fun _ => ?_)
def spec_StorePut.T3 : Bool × List (List Nat × List Nat) := (true, [([], []), ([0], [0]), ([], []), ([2], [2]), ([3], [3]), ([1, 4, 4], [1, 4]), ([5], [5]), ([6], [6]), ([6], [6]), ([6], [6]), ([], []), ([10, 7, 5, 0, 1, 2, 3, 4, 5, 6, 7, 10], [7, 10]), ([8, 11, 0, 1, 2, 3, 4, 5, 6, 7, 8, 10, 11], [8]), ([9, 12, 0, 1, 2, 3, 4, 5, 6, 7, 8, 9, 10, 11, 12], [9])])
def spec_StorePut.B3 : List Nat := [0, 1, 0, 4, 12, 31, 63, 127, 127, 127, 0, 1279, 3583, 8191]
theorem spec_StorePut.tab3 : rtab .any (opsOf Try.f61 3) = spec_StorePut.T3 := by kernel_rfl
theorem spec_StorePut.bits3 : waitsOk spec_StorePut.T3.2 spec_StorePut.B3 = true := by kernel_rfl
def spec_StorePut.T7 : Bool × List (List Nat × List Nat) := (true, [([], []), ([], []), ([], []), ([2], [2]), ([1, 3], [1, 3]), ([0, 4], [0, 4]), ([], []), ([6, 5, 4, 0, 1, 2, 3, 4, 5, 6], [5, 6])])
def spec_StorePut.B7 : List Nat := [0, 0, 0, 4, 14, 31, 0, 127]
theorem spec_StorePut.tab7 : rtab .any (opsOf Try.f61 7) = spec_StorePut.T7 := by kernel_rfl
theorem spec_StorePut.bits7 : waitsOk spec_StorePut.T7.2 spec_StorePut.B7 = true := by kernel_rfl
def spec_StorePut.T11 : Bool × List (List Nat × List Nat) := (true, [([], []), ([0], [0]), ([], []), ([], []), ([3], [3]), ([2, 4], [2, 4]), ([5], [5]), ([6], [6]), ([], []), ([8], [8]), ([7, 9], [7, 9]), ([], []), ([], []), ([11, 12], [11, 12]), ([13], [13]), ([1, 10, 0, 1, 2, 3, 4, 5, 6, 7, 8, 9, 10, 11, 12, 13, 14], [1, 10]), ([15, 14, 0, 1, 2, 3, 4, 5, 6, 7, 8, 9, 10, 11, 12, 13, 14], [14, 15])])
def spec_StorePut.B11 : List Nat := [0, 1, 0, 0, 8, 28, 60, 124, 0, 256, 1020, 0, 0, 6144, 14336, 32767, 65535]
theorem spec_StorePut.tab11 : rtab .any (opsOf Try.f61 11) = spec_StorePut.T11 := by kernel_rfl
theorem spec_StorePut.bits11 : waitsOk spec_StorePut.T11.2 spec_StorePut.B11 = true := by kernel_rfl
set_option maxHeartbeats 8000000 in
set_option maxRecDepth 100000 in
theorem spec_StorePut.calls (k : Nat) (a0_0 : Int) (A0_1 : Option Addr) (c0_1 : Nat) (l0_1 : List Int) (A0_2 : Option Addr) (c0_2 : Nat) (l0_2 : List Int) (A1 : Option Addr) (c1 : Nat) (l1 : List Int) (r1 : Int) (r2 : List Int) (r3 : List Int) (r4 : Int) (r5 : Int) (w : World) (hr0_1 : Kd.C (Kd.int .i64) w A0_1 l0_1.length l0_1) (hc0_1 : l0_1.length ≤ c0_1) (hr0_2 : Kd.C (Kd.int .u8) w A0_2 l0_2.length l0_2) (hc0_2 : l0_2.length ≤ c0_2) (hr1 : Kd.C (Kd.int .u8) w A1 l1.length l1) (hc1 : l1.length ≤ c1) (h : spec_StorePut.f k a0_0 l0_1 l0_2 l1 = some (r1, r2, r3, r4, r5)) :
  Calls Try.prog 61 #[.agg #[.int .i64 a0_0, .slice A0_1 l0_1.length c0_1, .slice A0_2 l0_2.length c0_2], .slice A1 l1.length c1] w fun e w' => ∃ v1_ v2_ : Value, e = .returned (.tuple #[.agg #[.int .i64 r1, v1_, v2_], .int .i64 r4, .int .i64 r5]) ∧ Kd.R (Kd.int .i64) 3 w' w.heap.size (fun _ => True) v1_ r2 ∧ Kd.R (Kd.int .u8) 5 w' w.heap.size (fun _ => True) v2_ r3 ∧ Below w.heap.size w w' := by
 have hu36 := Try.underlying36; have hu24 := Try.underlying24
 have HR0_1 := Aside0.mk hr0_1
 have HC0_1 := Aside0.mk hc0_1
 clear hr0_1 hc0_1
 have HR0_2 := Aside0.mk hr0_2
 have HC0_2 := Aside0.mk hc0_2
 clear hr0_2 hc0_2
 have HR1 := Aside0.mk hr1
 have HC1 := Aside0.mk hc1
 clear hr1 hc1; have HB := Aside0.mk (Below.refl w.heap.size w)
 have H : ((spec_StoreOk.f k a0_0 l0_1 l0_2).bind fun t291 => (if t291 = true then ((spec_l16Need.f (l1.length : Int)).bind fun t292 => ((spec_SlabTake.f k a0_0 l0_1 t292).bind fun bt293 => (if bt293.2.2.2 = 0 then ((spec_l16Walk.f k bt293.1 bt293.2.1 bt293.2.2.1).bind fun t300 => ((some (([] : List Int) : List Int)).bind fun y303 => (if y303.length + l0_2.length < 140737488355328 then (spec_StorePut.l0 k l1 bt293.2.2.1 t300 0 bt293.1 bt293.2.1 (y303 ++ l0_2)) else (none)))) else (some (0, ([] : List Int), ([] : List Int), (-1), bt293.2.2.2))))) else (some (0, ([] : List Int), ([] : List Int), (-1), 1)))) = some (r1, r2, r3, r4, r5) := h
 clear h
 replace H := Option.bind_eq_some_iff.mp H
 obtain ⟨t291, A30, H⟩ := H
 replace H : (if t291 = true then ((spec_l16Need.f (l1.length : Int)).bind fun t292 => ((spec_SlabTake.f k a0_0 l0_1 t292).bind fun bt293 => (if bt293.2.2.2 = 0 then ((spec_l16Walk.f k bt293.1 bt293.2.1 bt293.2.2.1).bind fun t300 => ((some (([] : List Int) : List Int)).bind fun y303 => (if y303.length + l0_2.length < 140737488355328 then (spec_StorePut.l0 k l1 bt293.2.2.1 t300 0 bt293.1 bt293.2.1 (y303 ++ l0_2)) else (none)))) else (some (0, ([] : List Int), ([] : List Int), (-1), bt293.2.2.2))))) else (some (0, ([] : List Int), ([] : List Int), (-1), 1))) = some (r1, r2, r3, r4, r5) := H
 have A3 := Aside0.mk A30
 clear A30
 by_cases c4 : t291 = true
 ·subst c4
  have H1 : ((spec_l16Need.f (l1.length : Int)).bind fun t292 => ((spec_SlabTake.f k a0_0 l0_1 t292).bind fun bt293 => (if bt293.2.2.2 = 0 then ((spec_l16Walk.f k bt293.1 bt293.2.1 bt293.2.2.1).bind fun t300 => ((some (([] : List Int) : List Int)).bind fun y303 => (if y303.length + l0_2.length < 140737488355328 then (spec_StorePut.l0 k l1 bt293.2.2.1 t300 0 bt293.1 bt293.2.1 (y303 ++ l0_2)) else (none)))) else (some (0, ([] : List Int), ([] : List Int), (-1), bt293.2.2.2))))) = some (r1, r2, r3, r4, r5) := by rw [if_pos rfl] at H; exact H
  clear H
  have H := H1
  clear H1
  replace H := Option.bind_eq_some_iff.mp H
  obtain ⟨t292, A50, H⟩ := H
  replace H : ((spec_SlabTake.f k a0_0 l0_1 t292).bind fun bt293 => (if bt293.2.2.2 = 0 then ((spec_l16Walk.f k bt293.1 bt293.2.1 bt293.2.2.1).bind fun t300 => ((some (([] : List Int) : List Int)).bind fun y303 => (if y303.length + l0_2.length < 140737488355328 then (spec_StorePut.l0 k l1 bt293.2.2.1 t300 0 bt293.1 bt293.2.1 (y303 ++ l0_2)) else (none)))) else (some (0, ([] : List Int), ([] : List Int), (-1), bt293.2.2.2)))) = some (r1, r2, r3, r4, r5) := H
  have A5 := Aside0.mk A50
  clear A50
  replace H := Option.bind_eq_some_iff.mp H
  obtain ⟨⟨t293, t294, t297, t298⟩, A60, H⟩ := H
  replace H : (if t298 = 0 then ((spec_l16Walk.f k t293 t294 t297).bind fun t300 => ((some (([] : List Int) : List Int)).bind fun y303 => (if y303.length + l0_2.length < 140737488355328 then (spec_StorePut.l0 k l1 t297 t300 0 t293 t294 (y303 ++ l0_2)) else (none)))) else (some (0, ([] : List Int), ([] : List Int), (-1), t298))) = some (r1, r2, r3, r4, r5) := H
  have A6 := Aside0.mk A60
  clear A60
  by_cases c7 : t298 = 0
  ·rw [if_pos c7] at H
   have c7b0 : (t298 == 0) = true := beq_iff_eq.mpr c7
   have c7b1 : (t298 != 0) = false := bne_eq_false_iff_eq.mpr c7
   clear c7
   replace H := Option.bind_eq_some_iff.mp H
   obtain ⟨t300, A80, H⟩ := H
   replace H : ((some (([] : List Int) : List Int)).bind fun y303 => (if y303.length + l0_2.length < 140737488355328 then (spec_StorePut.l0 k l1 t297 t300 0 t293 t294 (y303 ++ l0_2)) else (none))) = some (r1, r2, r3, r4, r5) := H
   have A8 := Aside0.mk A80
   clear A80
   obtain ⟨y303, hy303⟩ : ∃ y_ : List Int, y_ = (([] : List Int)) := ⟨_, rfl⟩
   replace H : (if y303.length + l0_2.length < 140737488355328 then (spec_StorePut.l0 k l1 t297 t300 0 t293 t294 (y303 ++ l0_2)) else (none)) = some (r1, r2, r3, r4, r5) := by first | (rw [hy303]; with_reducible exact H) | (have H2_ := (Option.bind_some _ _).symm.trans H; rw [hy303]; with_reducible exact H2_) | (have H2_ := (Option.bind_some _ _).symm.trans H; with_reducible exact H2_) | with_reducible exact H | (rw [hy303]; exact H) | exact H
   have Ny303 := Aside0.mk hy303
   clear hy303
   by_cases c9 : y303.length + l0_2.length < 140737488355328
   ·rw [if_pos c9] at H
    have LMc9 := Aside0.mk c9
    clear c9
    obtain ⟨y306, hy306⟩ : ∃ y_ : List Int, y_ = (y303 ++ l0_2) := ⟨_, rfl⟩
    replace H : (spec_StorePut.l0 k l1 t297 t300 0 t293 t294 y306) = some (r1, r2, r3, r4, r5) := by first | (rw [hy306]; with_reducible exact H) | (have H2_ := (Option.bind_some _ _).symm.trans H; rw [hy306]; with_reducible exact H2_) | (have H2_ := (Option.bind_some _ _).symm.trans H; with_reducible exact H2_) | with_reducible exact H | (rw [hy306]; exact H) | exact H
    have Ny306 := Aside0.mk hy306
    clear hy306
    have H' := Aside0.mk H
    clear H
    go_enter Try.func61, Try.ntmps61
    try go_wp2_with (first | ((with_reducible refine gd_ 2 rfl ?_); refine bv_ 2 #[.int .i64 a0_0, .slice A0_1 l0_1.length c0_1, .slice A0_2 l0_2.length c0_2] 36 ?_; intro gb289 hg w10 hbox hb; have BK289 := Aside0.mk (hbox); have GW289 := gw_ HB hg; have GE289 := gw_ HB hg; replace HB := Aside0.mk (below_step (be_ HB) hb); clear hb hbox hg) | ((with_reducible refine gd_ 4 rfl ?_); refine bv_ 4 #[.int .i64 0, .slice none 0 0, .slice none 0 0] 36 ?_; intro gb290 hg w11 hbox hb; have BK290 := Aside0.mk (hbox); have GW290 := gw_ HB hg; have GE290 := gw_ HB hg; replace HB := Aside0.mk (below_step (bf_ HB) hb); have NB289_290 := nl_ BK289 hg; have NB290_289 := ng_ BK289 hg; replace BK289 := bb_ BK289 hb; clear hb hbox hg; have hnb12 := NB289_290.out; have hnc12 := NB290_289.out; obtain ⟨hcz13_0, hcz13_1, hcz13_2, hfz13_0, hfz13_1, hfz13_2⟩ := bz3_ BK289) | ((with_reducible refine gc_ 39 rfl ?_); refine gl_ 14 Try.func39 #[.agg #[.int .i64 a0_0, .slice A0_1 l0_1.length c0_1, .slice A0_2 l0_2.length c0_2]] ?_; (with_reducible refine (spec_StoreOk.calls k a0_0 _ _ l0_1 _ _ l0_2 true _ ?side1 ?side2 ?side3 ?side4 A3.out).mono ?_); (case side1 => repeat (first | exact (Kd.C_below HR0_1.out HB.out) | (with_reducible refine Kd.C_alloc ?_ _) | (with_reducible refine Kd.C_drewN ?_ _) | (with_reducible refine Kd.C_drew ?_))); (case side2 => exact HC0_1.out); (case side3 => repeat (first | exact (Kd.C_below HR0_2.out HB.out) | (with_reducible refine Kd.C_alloc ?_ _) | (with_reducible refine Kd.C_drewN ?_ _) | (with_reducible refine Kd.C_drew ?_))); (case side4 => exact HC0_2.out); rintro e w14 ⟨rfl, hb⟩; refine ⟨_, rfl, ?_⟩; replace BK289 := bb_ BK289 hb; replace BK290 := bb_ BK290 hb; replace HB := Aside0.mk (below_step (bf_ HB) hb); (try clear hb); (try clear hb2); (try clear hk); (try clear hi)))
    replace BK289 := Aside0.mk (blk_drew BK289.out); replace BK290 := Aside0.mk (blk_drew BK290.out); replace HB := Aside0.mk (below_drew1 HB.out)
    refine start_ (n := 14) (S := fun w' => cw_ w' gb289 0 (.int .i64 a0_0) ∧ cw_ w' gb289 1 (.slice A0_1 l0_1.length c0_1) ∧ cw_ w' gb289 2 (.slice A0_2 l0_2.length c0_2)) (ds := []) (bs 14 0) (by kernel_rfl) rfl rfl ⟨bt_ BK289 0, bt_ BK289 1, bt_ BK289 2⟩ (fun hHeld => ?_); refine with_tabW spec_StorePut.tab3 spec_StorePut.bits3 (fun HT_ HW_ => ?_)
    generalize w14.drew = w15 at BK289 BK290 HB hHeld ⊢
    refine ps_ 0 18 (bs 14 1) HT_ ?_
    refine ps_ 2 20 (bm 14 5) HT_ ?_
    refine ps_ 3 21 (bm 14 13) HT_ ?_
    refine tk_ 1 19 (bs 14 4) HT_ HW_ hHeld ?_
    refine join_ (σ := Value × Nat) 3 (bs 14 11) (fun s_ => [(22, .int .i64 t292), (23, .tuple #[.agg #[.int .i64 t293, s_.1], .int .i64 t297, .int .i64 t298]), (7, .pointer (some ⟨s_.2, 0, none⟩)), (17, .tuple #[.agg #[.int .i64 t293, s_.1], .int .i64 t297, .int .i64 t298]), (24, .agg #[.int .i64 t293, s_.1]), (25, .int .i64 t297), (26, .int .i64 t298)]) (fun s_ w' => (w'.cell? ⟨gb289, 0, none⟩ = some (.int .i64 a0_0) ∧ w'.cell? ⟨gb289, 1, none⟩ = some (.slice A0_1 l0_1.length c0_1) ∧ w'.cell? ⟨gb289, 2, none⟩ = some (.slice A0_2 l0_2.length c0_2)) ∧ (Kd.R (Kd.int .i64) 3 w' w.heap.size (fun _ => True) s_.1 t294) ∧ (w'.heap[gb289]? = some (.cells #[.int .i64 a0_0, .slice A0_1 l0_1.length c0_1, .slice A0_2 l0_2.length c0_2] 36 (0, 0))) ∧ (w'.heap[gb290]? = some (.cells #[.int .i64 0, .slice none 0 0, .slice none 0 0] 36 (0, 0))) ∧ (w'.heap[s_.2]? = some (.cells #[.int .i64 0, .slice none 0 0] 24 (0, 0))) ∧ (w.heap.size ≤ s_.2) ∧ (w.heap.size ≤ s_.2) ∧ (gb289 ≠ s_.2) ∧ (s_.2 ≠ gb289) ∧ (gb290 ≠ s_.2) ∧ (s_.2 ≠ gb290) ∧ (Below w.heap.size w w')) ?_ ?_
    rotate_left
    ·intro hCont
     refine two_ (i := 4) (j := 10) (Ni := some 22) (Nj := some 7) (bs 14 5) (bm 14 1039) rfl rfl rfl rfl (two_of HT_.out (by kernel_rfl)) (by decide) (by decide) (fun K hK => ?_) (fun K hK => ?_)
     ·skip
      refine gs_ Try.func79 #[.int .i64 (l1.length : Int)] ?_
      with_reducible refine (spec_l16Need.calls (l1.length : Int) t292 _ A5.out).mono ?_
      rintro e w16 ⟨rfl, hb⟩
      refine ⟨_, rfl, ?_⟩
      replace BK289 := bb_ BK289 hb; replace BK290 := bb_ BK290 hb; replace HB := Aside0.mk (below_step (bf_ HB) hb); (try clear hb); (try clear hb2); (try clear hk); (try clear hi)
      refine hK.out _ _ ⟨bt_ BK289 0, bt_ BK289 1, bt_ BK289 2⟩ (fun hHeld => ?_)
      clear hK K
      refine norm_ (a' := ?_) ?_ ?_
      rotate_left
      ·show Act.put _ (some 22) _ = _
       simp only [Act.put, ls0_, ls1_, ls2_, i64_w, i32_w]
       rfl
      refine two_ (i := 5) (j := 10) (Ni := some 23) (Nj := some 7) (bs 14 6) (bm 14 1055) rfl rfl rfl rfl (two_of HT_.out (by kernel_rfl)) (by decide) (by decide) (fun K hK => ?_) (fun K hK => ?_)
      ·skip
       refine gs_ Try.func44 #[.agg #[.int .i64 a0_0, .slice A0_1 l0_1.length c0_1], .int .i64 t292] ?_
       with_reducible refine (spec_SlabTake.calls k a0_0 _ _ l0_1 t292 t293 t294 t297 t298 _ ?side1 ?side2 A6.out).mono ?_
       (case side1 => repeat (first | exact (Kd.C_below HR0_1.out HB.out) | (with_reducible refine Kd.C_alloc ?_ _) | (with_reducible refine Kd.C_drewN ?_ _) | (with_reducible refine Kd.C_drew ?_)))
       (case side2 => exact HC0_1.out)
       rintro e w17 ⟨v295, rfl, ho0, hb⟩
       refine ⟨_, rfl, ?_⟩
       have HO296 := Aside0.mk (Kd.R_lower ho0 (below_size (bf_ HB))); replace BK289 := bb_ BK289 hb; replace BK290 := bb_ BK290 hb; replace HB := Aside0.mk (below_step (bf_ HB) hb); (try clear hb); (try clear hb2); (try clear hk); (try clear hi); (try clear ho0)
       refine hK.out _ _ ⟨bt_ BK289 0, bt_ BK289 1, bt_ BK289 2⟩ (fun hHeld => ?_)
       clear hK K
       refine norm_ (a' := ?_) ?_ ?_
       rotate_left
       ·show Act.put _ (some 23) _ = _
        simp only [Act.put, ls0_, ls1_, ls2_, i64_w, i32_w]
        rfl
       refine ps_ 6 17 (bs 14 7) HT_ ?_
       refine ps_ 7 24 (bs 14 8) HT_ ?_
       refine ps_ 8 25 (bs 14 9) HT_ ?_
       refine ps_ 9 26 (bs 14 10) HT_ ?_
       refine on_ 10 (some 7) (bs 14 11) HT_ (fun K hK => ?_)
       refine box_step ?hg (N := 7) ?hd (cs := #[.int .i64 0, .slice none 0 0]) (t := 24) ?hr ?_; (case hd => rfl); (case hg => rfl); (case hr => first | (go_simp; done) | (go_simp; rfl))
       intro gb299 hg w18 hbox hb
       replace HO296 := Aside0.mk (Kd.R_below (kr_ HO296) hb); have BK299 := Aside0.mk (hbox); have GW299 := gw_ HB hg; have GE299 := gw_ HB hg; replace HB := Aside0.mk (below_step (bf_ HB) hb); have NB289_299 := nl_ BK289 hg; have NB299_289 := ng_ BK289 hg; replace BK289 := bb_ BK289 hb; have NB290_299 := nl_ BK290 hg; have NB299_290 := ng_ BK290 hg; replace BK290 := bb_ BK290 hb; clear hb hbox hg
       refine hK.out _ _ ⟨bt_ BK289 0, bt_ BK289 1, bt_ BK289 2⟩ (fun hHeld => ?_)
       clear hK K
       refine norm_ (a' := ?_) ?_ ?_
       rotate_left
       ·show Act.put _ (some 7) _ = _
        simp only [Act.put, ls0_, ls1_, ls2_, i64_w, i32_w]
        rfl
       exact norm_ (by simp only [putAll, Act.put, ls0_, ls1_, ls2_]) (hCont (v295, gb299) _ ⟨hHeld, (kr_ HO296), (bk_ BK289), (bk_ BK290), (bk_ BK299), GW299.out, GE299.out, NB289_299.out, NB299_289.out, NB290_299.out, NB299_290.out, (bf_ HB)⟩)
      ·skip
       refine box_step ?hg (N := 7) ?hd (cs := #[.int .i64 0, .slice none 0 0]) (t := 24) ?hr ?_; (case hd => rfl); (case hg => rfl); (case hr => first | (go_simp; done) | (go_simp; rfl))
       intro gb299 hg w17 hbox hb
       have BK299 := Aside0.mk (hbox); have GW299 := gw_ HB hg; have GE299 := gw_ HB hg; replace HB := Aside0.mk (below_step (bf_ HB) hb); have NB289_299 := nl_ BK289 hg; have NB299_289 := ng_ BK289 hg; replace BK289 := bb_ BK289 hb; have NB290_299 := nl_ BK290 hg; have NB299_290 := ng_ BK290 hg; replace BK290 := bb_ BK290 hb; clear hb hbox hg
       refine hK.out _ _ ⟨bt_ BK289 0, bt_ BK289 1, bt_ BK289 2⟩ (fun hHeld => ?_)
       clear hK K
       refine norm_ (a' := ?_) ?_ ?_
       rotate_left
       ·show Act.put _ (some 7) _ = _
        simp only [Act.put, ls0_, ls1_, ls2_, i64_w, i32_w]
        rfl
       refine on_ 5 (some 23) (bm 14 1087) HT_ (fun K hK => ?_)
       refine gs_ Try.func44 #[.agg #[.int .i64 a0_0, .slice A0_1 l0_1.length c0_1], .int .i64 t292] ?_
       with_reducible refine (spec_SlabTake.calls k a0_0 _ _ l0_1 t292 t293 t294 t297 t298 _ ?side1 ?side2 A6.out).mono ?_
       (case side1 => repeat (first | exact (Kd.C_below HR0_1.out HB.out) | (with_reducible refine Kd.C_alloc ?_ _) | (with_reducible refine Kd.C_drewN ?_ _) | (with_reducible refine Kd.C_drew ?_)))
       (case side2 => exact HC0_1.out)
       rintro e w18 ⟨v295, rfl, ho0, hb⟩
       refine ⟨_, rfl, ?_⟩
       have HO296 := Aside0.mk (Kd.R_lower ho0 (below_size (bf_ HB))); replace BK289 := bb_ BK289 hb; replace BK290 := bb_ BK290 hb; replace BK299 := bb_ BK299 hb; replace HB := Aside0.mk (below_step (bf_ HB) hb); (try clear hb); (try clear hb2); (try clear hk); (try clear hi); (try clear ho0)
       refine hK.out _ _ ⟨bt_ BK289 0, bt_ BK289 1, bt_ BK289 2⟩ (fun hHeld => ?_)
       clear hK K
       refine norm_ (a' := ?_) ?_ ?_
       rotate_left
       ·show Act.put _ (some 23) _ = _
        simp only [Act.put, ls0_, ls1_, ls2_, i64_w, i32_w]
        rfl
       refine ps_ 6 17 (bm 14 1151) HT_ ?_
       refine ps_ 7 24 (bm 14 1279) HT_ ?_
       refine ps_ 8 25 (bm 14 1535) HT_ ?_
       refine ps_ 9 26 (bs 14 11) HT_ ?_
       exact norm_ (by simp only [putAll, Act.put, ls0_, ls1_, ls2_]) (hCont (v295, gb299) _ ⟨hHeld, (kr_ HO296), (bk_ BK289), (bk_ BK290), (bk_ BK299), GW299.out, GE299.out, NB289_299.out, NB299_289.out, NB290_299.out, NB299_290.out, (bf_ HB)⟩)
     ·skip
      refine box_step ?hg (N := 7) ?hd (cs := #[.int .i64 0, .slice none 0 0]) (t := 24) ?hr ?_; (case hd => rfl); (case hg => rfl); (case hr => first | (go_simp; done) | (go_simp; rfl))
      intro gb299 hg w16 hbox hb
      have BK299 := Aside0.mk (hbox); have GW299 := gw_ HB hg; have GE299 := gw_ HB hg; replace HB := Aside0.mk (below_step (bf_ HB) hb); have NB289_299 := nl_ BK289 hg; have NB299_289 := ng_ BK289 hg; replace BK289 := bb_ BK289 hb; have NB290_299 := nl_ BK290 hg; have NB299_290 := ng_ BK290 hg; replace BK290 := bb_ BK290 hb; clear hb hbox hg
      refine hK.out _ _ ⟨bt_ BK289 0, bt_ BK289 1, bt_ BK289 2⟩ (fun hHeld => ?_)
      clear hK K
      refine norm_ (a' := ?_) ?_ ?_
      rotate_left
      ·show Act.put _ (some 7) _ = _
       simp only [Act.put, ls0_, ls1_, ls2_, i64_w, i32_w]
       rfl
      refine on_ 4 (some 22) (bm 14 1055) HT_ (fun K hK => ?_)
      refine gs_ Try.func79 #[.int .i64 (l1.length : Int)] ?_
      with_reducible refine (spec_l16Need.calls (l1.length : Int) t292 _ A5.out).mono ?_
      rintro e w17 ⟨rfl, hb⟩
      refine ⟨_, rfl, ?_⟩
      replace BK289 := bb_ BK289 hb; replace BK290 := bb_ BK290 hb; replace BK299 := bb_ BK299 hb; replace HB := Aside0.mk (below_step (bf_ HB) hb); (try clear hb); (try clear hb2); (try clear hk); (try clear hi)
      refine hK.out _ _ ⟨bt_ BK289 0, bt_ BK289 1, bt_ BK289 2⟩ (fun hHeld => ?_)
      clear hK K
      refine norm_ (a' := ?_) ?_ ?_
      rotate_left
      ·show Act.put _ (some 22) _ = _
       simp only [Act.put, ls0_, ls1_, ls2_, i64_w, i32_w]
       rfl
      refine on_ 5 (some 23) (bm 14 1087) HT_ (fun K hK => ?_)
      refine gs_ Try.func44 #[.agg #[.int .i64 a0_0, .slice A0_1 l0_1.length c0_1], .int .i64 t292] ?_
      with_reducible refine (spec_SlabTake.calls k a0_0 _ _ l0_1 t292 t293 t294 t297 t298 _ ?side1 ?side2 A6.out).mono ?_
      (case side1 => repeat (first | exact (Kd.C_below HR0_1.out HB.out) | (with_reducible refine Kd.C_alloc ?_ _) | (with_reducible refine Kd.C_drewN ?_ _) | (with_reducible refine Kd.C_drew ?_)))
      (case side2 => exact HC0_1.out)
      rintro e w18 ⟨v295, rfl, ho0, hb⟩
      refine ⟨_, rfl, ?_⟩
      have HO296 := Aside0.mk (Kd.R_lower ho0 (below_size (bf_ HB))); replace BK289 := bb_ BK289 hb; replace BK290 := bb_ BK290 hb; replace BK299 := bb_ BK299 hb; replace HB := Aside0.mk (below_step (bf_ HB) hb); (try clear hb); (try clear hb2); (try clear hk); (try clear hi); (try clear ho0)
      refine hK.out _ _ ⟨bt_ BK289 0, bt_ BK289 1, bt_ BK289 2⟩ (fun hHeld => ?_)
      clear hK K
      refine norm_ (a' := ?_) ?_ ?_
      rotate_left
      ·show Act.put _ (some 23) _ = _
       simp only [Act.put, ls0_, ls1_, ls2_, i64_w, i32_w]
       rfl
      refine ps_ 6 17 (bm 14 1151) HT_ ?_
      refine ps_ 7 24 (bm 14 1279) HT_ ?_
      refine ps_ 8 25 (bm 14 1535) HT_ ?_
      refine ps_ 9 26 (bs 14 11) HT_ ?_
      exact norm_ (by simp only [putAll, Act.put, ls0_, ls1_, ls2_]) (hCont (v295, gb299) _ ⟨hHeld, (kr_ HO296), (bk_ BK289), (bk_ BK290), (bk_ BK299), GW299.out, GE299.out, NB289_299.out, NB299_289.out, NB290_299.out, NB299_290.out, (bf_ HB)⟩)
    rintro ⟨v295, gb299⟩ w19 ⟨hS_, h0_, h1_, h2_, h3_, h4_, h5_, h6_, h7_, h8_, h9_, h10_⟩
    have n0_ : Aside0 (Kd.R (Kd.int .i64) 3 w19 w.heap.size (fun _ => True) v295 t294) := ⟨h0_⟩
    have n1_ : Aside0 (w19.heap[gb289]? = some (.cells #[.int .i64 a0_0, .slice A0_1 l0_1.length c0_1, .slice A0_2 l0_2.length c0_2] 36 (0, 0))) := ⟨h1_⟩
    have n2_ : Aside0 (w19.heap[gb290]? = some (.cells #[.int .i64 0, .slice none 0 0, .slice none 0 0] 36 (0, 0))) := ⟨h2_⟩
    have n3_ : Aside0 (w19.heap[gb299]? = some (.cells #[.int .i64 0, .slice none 0 0] 24 (0, 0))) := ⟨h3_⟩
    have n4_ : Aside0 (w.heap.size ≤ gb299) := ⟨h4_⟩
    have n5_ : Aside0 (w.heap.size ≤ gb299) := ⟨h5_⟩
    have n6_ : Aside0 (gb289 ≠ gb299) := ⟨h6_⟩
    have n7_ : Aside0 (gb299 ≠ gb289) := ⟨h7_⟩
    have n8_ : Aside0 (gb290 ≠ gb299) := ⟨h8_⟩
    have n9_ : Aside0 (gb299 ≠ gb290) := ⟨h9_⟩
    have n10_ : Aside0 (Below w.heap.size w w19) := ⟨h10_⟩
    clear BK289 BK290 HB h0_ h1_ h2_ h3_ h4_ h5_ h6_ h7_ h8_ h9_ h10_; have HO296 := n0_; have BK289 := n1_; have BK290 := n2_; have BK299 := n3_; have GW299 := n4_; have GE299 := n5_; have NB289_299 := n6_; have NB299_289 := n7_; have NB290_299 := n8_; have NB299_290 := n9_; have HB := n10_; clear n0_ n1_ n2_ n3_ n4_ n5_ n6_ n7_ n8_ n9_ n10_
    have hHeld : w19.cell? ⟨gb289, 0, none⟩ = some (.int .i64 a0_0) ∧ w19.cell? ⟨gb289, 1, none⟩ = some (.slice A0_1 l0_1.length c0_1) ∧ w19.cell? ⟨gb289, 2, none⟩ = some (.slice A0_2 l0_2.length c0_2) := hS_
    obtain ⟨Ao21, co21, eo21⟩ := Kd.R_slice HO296.out
    (first | subst eo21 | (injection eo21 with f1_ f2_ f3_; have f4_ := f1_.symm; have f5_ := f3_.symm; clear f1_ f2_ f3_; subst f4_; subst f5_))
    refine norm_ (a' := ?_) ?_ ?_
    rotate_left
    ·simp only [putAll, Act.put, ls0_, ls1_, ls2_]
     rfl
    refine on_ 11 none (bs 14 12) HT_ (fun K hK => ?_)
    have hs20 := bc_ BK299 0 (.int .i64 0) rfl; have hfs20 := blk_frozen BK299.out 0; have hns20_0 := NB289_299.out; have hns20_1 := NB290_299.out; have hms20_0 := NB299_289.out; have hms20_1 := NB299_290.out; have hs22 := bc_ BK299 1 (.slice none 0 0) rfl; have hfs22 := blk_frozen BK299.out 1; have hns22_0 := NB289_299.out; have hns22_1 := NB290_299.out; have hms22_0 := NB299_289.out; have hms22_1 := NB299_290.out
    refine skip_ (w1 := ?_) (by rfl) rfl ?_ ?_
    rotate_left
    ·go_simp
     rfl
    refine hK.out _ _ ⟨(cf2_ NB289_299.out hHeld.1), (cf2_ NB289_299.out hHeld.2.1), (cf2_ NB289_299.out hHeld.2.2)⟩ (fun hHeld => ?_)
    clear hK K
    refine ps_ 12 8 (bs 14 13) HT_ ?_
    refine ps_ 13 9 (bs 14 14) HT_ ?_
    refine done_ (done_of HT_.out (by kernel_rfl)) ?_
    have hnb23 := NB299_289.out; have hnc23 := NB289_299.out; have hnb24 := NB299_290.out; have hnc24 := NB290_299.out; obtain ⟨hcz25_0, hcz25_1, hfz25_0, hfz25_1⟩ := bz2_ BK299
    try go_wp2_with (first | ((with_reducible refine gc_ 70 rfl ?_); refine gl_ 33 Try.func70 #[.agg #[.int .i64 t293, .slice Ao21 t294.length co21], .int .i64 t297] ?_; (with_reducible refine (spec_l16Walk.calls k t293 _ _ t294 t297 t300 _ ?side1 ?side2 A8.out).mono ?_); (case side1 => refine (Kd.R_reads' (e := 3) (base := w.heap.size) (ok := fun k_ => True) (n := t294.length) (c := co21) ?_).2.2; exact (by (with_reducible repeat (first | apply Kd.R_alloc | apply Kd.R_drewN | apply Kd.R_drew)); exact (rf2_ HO296 BK299 (.int .i64 t293) (.slice Ao21 t294.length co21)))); (case side2 => exact (Kd.R_reads' HO296.out).2.1); rintro e w26 ⟨v301, rfl, ho0, hb⟩; refine ⟨_, rfl, ?_⟩; have HO302 := Aside0.mk (Kd.R_lower (Kd.R_new' ho0 (Kd.R_lt (by (with_reducible repeat (first | apply Kd.R_alloc | apply Kd.R_drewN | apply Kd.R_drew)); exact (rf2_ HO296 BK299 (.int .i64 t293) (.slice Ao21 t294.length co21))))) (below_size (bf_ HB))); replace HO296 := Aside0.mk (Kd.R_elder' (by (with_reducible repeat (first | apply Kd.R_alloc | apply Kd.R_drewN | apply Kd.R_drew)); exact (rf2_ HO296 BK299 (.int .i64 t293) (.slice Ao21 t294.length co21))) (Kd.R_base ho0) hb); replace BK289 := bm_ BK289 hb; replace BK290 := bm_ BK290 hb; replace BK299 := Aside0.mk (blk_below (g := gb299) (o := .cells #[.int .i64 t293, .slice Ao21 t294.length co21] 24 (0, 0)) (by (with_reducible repeat (first | refine blk_drewN ?_ _ | refine blk_drew ?_ | refine blk_alloc ?_ _)); refine blk_put (cs := #[.int .i64 t293, .slice none 0 0]) ?_ 1 _ rfl; (with_reducible repeat (first | refine blk_drewN ?_ _ | refine blk_drew ?_ | refine blk_alloc ?_ _)); refine blk_put (cs := #[.int .i64 0, .slice none 0 0]) ?_ 0 _ rfl; exact bk_ BK299) hb); replace HB := Aside0.mk (below_step (bf_ HB) hb); (try clear hb); (try clear hb2); (try clear hk); (try clear hi); (try clear ho0)))
    replace HO296 := Aside0.mk (Kd.R_drew HO296.out); replace HO302 := Aside0.mk (Kd.R_drew HO302.out); replace BK289 := Aside0.mk (blk_drew BK289.out); replace BK290 := Aside0.mk (blk_drew BK290.out); replace BK299 := Aside0.mk (blk_drew BK299.out); replace HB := Aside0.mk (below_drew1 HB.out)
    refine start_ (n := 8) (S := fun w' => cw_ w' gb299 0 (.int .i64 t293) ∧ cw_ w' gb299 1 (.slice Ao21 t294.length co21) ∧ cw_ w' gb289 0 (.int .i64 a0_0) ∧ cw_ w' gb289 1 (.slice A0_1 l0_1.length c0_1) ∧ cw_ w' gb289 2 (.slice A0_2 l0_2.length c0_2)) (ds := []) (bs 8 0) (by kernel_rfl) rfl rfl ⟨bt_ BK299 0, bt_ BK299 1, bt_ BK289 0, bt_ BK289 1, bt_ BK289 2⟩ (fun hHeld => ?_); refine with_tabW spec_StorePut.tab7 spec_StorePut.bits7 (fun HT_ HW_ => ?_)
    generalize w26.drew = w27 at HO296 HO302 BK289 BK290 BK299 HB hHeld ⊢
    refine ps_ 2 36 (bm 8 4) HT_ ?_
    refine tk_ 0 34 (bm 8 5) HT_ HW_ hHeld ?_
    refine tk_ 3 37 (bm 8 13) HT_ HW_ hHeld ?_
    refine join_ (σ := Value × Value × Nat) 1 (bs 8 7) (fun s_ => [(35, s_.1), (38, s_.2.1), (11, .pointer (some ⟨s_.2.2, 0, none⟩)), (39, .agg #[.int .i64 t293, .slice Ao21 t294.length co21, s_.2.1])]) (fun s_ w' => (w'.cell? ⟨gb299, 0, none⟩ = some (.int .i64 t293) ∧ w'.cell? ⟨gb299, 1, none⟩ = some (.slice Ao21 t294.length co21) ∧ w'.cell? ⟨gb289, 0, none⟩ = some (.int .i64 a0_0) ∧ w'.cell? ⟨gb289, 1, none⟩ = some (.slice A0_1 l0_1.length c0_1) ∧ w'.cell? ⟨gb289, 2, none⟩ = some (.slice A0_2 l0_2.length c0_2)) ∧ (Kd.R (Kd.int .i64) 3 w' w.heap.size (fun k_ => some k_ ≠ (v301 : Value).ownBlock) (.slice Ao21 t294.length co21) t294) ∧ (Kd.R (Kd.int .i64) 3 w' w.heap.size (fun k_ => some k_ ≠ (.slice Ao21 t294.length co21 : Value).ownBlock) v301 t300) ∧ (Kd.R (Kd.int .u8) 5 w' w.heap.size (fun _ => True) s_.2.1 y306) ∧ (w'.heap[gb289]? = some (.cells #[.int .i64 a0_0, .slice A0_1 l0_1.length c0_1, .slice A0_2 l0_2.length c0_2] 36 (0, 0))) ∧ (w'.heap[gb290]? = some (.cells #[.int .i64 0, .slice none 0 0, .slice none 0 0] 36 (0, 0))) ∧ (w'.heap[gb299]? = some (.cells #[.int .i64 t293, .slice Ao21 t294.length co21] 24 (0, 0))) ∧ (w'.heap[s_.2.2]? = some (.cells #[.int .i64 0, .slice none 0 0, .slice none 0 0] 36 (0, 0))) ∧ (w.heap.size ≤ s_.2.2) ∧ (w.heap.size ≤ s_.2.2) ∧ (gb289 ≠ s_.2.2) ∧ (s_.2.2 ≠ gb289) ∧ (gb290 ≠ s_.2.2) ∧ (s_.2.2 ≠ gb290) ∧ (gb299 ≠ s_.2.2) ∧ (s_.2.2 ≠ gb299) ∧ (Below w.heap.size w w')) ?_ ?_
    rotate_left
    ·intro hCont
     refine two_ (i := 1) (j := 6) (Ni := some 35) (Nj := some 11) (bs 8 4) (bm 8 77) rfl rfl rfl rfl (two_of HT_.out (by kernel_rfl)) (by decide) (by decide) (fun K hK => ?_) (fun K hK => ?_)
     ·skip
      refine Kd.R_lit_step (Kd.int .u8) _ 5 ?hg (N := 35) ?hd (xs := ([] : List Int)) (inner := []) (ok := fun _ => True) (okp := fun _ => True) ?hr ?hp (fun _ hk => by first | exact hk | grind) trivial (Below.refl _ _) (Nat.le_refl _) (by simp) ?_; (case hd => rfl); (case hg => rfl); (case hr => first | (go_simp; done) | (go_simp; rfl)); (case hp => exact (Reps.none _ _))
      intro v304 w28 ho29 hb hg_ hnew_
      clear hg_ hnew_
      (first | rw [← Ny303.out] at ho29 | (simp only [Int.reduceToNat] at ho29; rw [← Ny303.out] at ho29))
      replace HO296 := Aside0.mk (Kd.R_below (kr_ HO296) hb); replace HO302 := Aside0.mk (Kd.R_below (kr_ HO302) hb); have HO305 := Aside0.mk (Kd.R_lower ho29 (below_size (bf_ HB))); replace BK289 := bb_ BK289 hb; replace BK290 := bb_ BK290 hb; replace BK299 := bb_ BK299 hb; replace HB := Aside0.mk (below_step (bf_ HB) hb); clear hb ho29
      refine hK.out _ _ ⟨bt_ BK299 0, bt_ BK299 1, bt_ BK289 0, bt_ BK289 1, bt_ BK289 2⟩ (fun hHeld => ?_)
      clear hK K
      refine norm_ (a' := ?_) ?_ ?_
      rotate_left
      ·show Act.put _ (some 35) _ = _
       simp only [Act.put, ls0_, ls1_, ls2_, i64_w, i32_w]
       rfl
      refine two_ (i := 4) (j := 6) (Ni := some 38) (Nj := some 11) (bs 8 5) (bm 8 79) rfl rfl rfl rfl (two_of HT_.out (by kernel_rfl)) (by decide) (by decide) (fun K hK => ?_) (fun K hK => ?_)
      ·skip
       refine Kd.R_append_rows_step (Kd.int .u8) (w0 := w) w.heap.size (by rfl) (.tmp 35) (.tmp 37) 34 5 (.int .u8 0) 1 rfl Try.underlying34 info5 rfl (by decide) (by omega) v304 y303 l0_2 _ _ _ (fun _ => True) (fun _ => False) rfl rfl ?aO ?aR (fun _ _ h => h) (fun _ h => h.elim) ?aF ?aB ?aS ?aL ?_
       (case aR => repeat (first | exact (Kd.C_below HR0_2.out HB.out) | (with_reducible refine Kd.C_alloc ?_ _) | (with_reducible refine Kd.C_drewN ?_ _) | (with_reducible refine Kd.C_drew ?_)))
       (case aB => exact (bf_ HB))
       (case aF => exact (fun _ _ => trivial))
       (case aO => exact (kr_ HO305))
       (case aS => exact (below_size (bf_ HB)))
       (case aL => have := LMc9.out; omega)
       intro v307 w30 ho hb hg hat
       rw [← Ny306.out] at ho
       have n0_ := Aside0.mk (blk_grown (g := gb289) (o := .cells #[.int .i64 a0_0, .slice A0_1 l0_1.length c0_1, .slice A0_2 l0_2.length c0_2] 36 (0, 0)) (bk_ BK289) hg (Kd.R_ne HO305.out BK289.out (by decide)))
       have n1_ := Aside0.mk (blk_grown (g := gb290) (o := .cells #[.int .i64 0, .slice none 0 0, .slice none 0 0] 36 (0, 0)) (bk_ BK290) hg (Kd.R_ne HO305.out BK290.out (by decide)))
       have n2_ := Aside0.mk (Kd.R_over' (kr_ HO296) (Kd.R_typed (kr_ HO305)) (by decide) hg)
       have n3_ := Aside0.mk (blk_grown (g := gb299) (o := .cells #[.int .i64 t293, .slice Ao21 t294.length co21] 24 (0, 0)) (bk_ BK299) hg (Kd.R_ne HO305.out BK299.out (by decide)))
       have n4_ := Aside0.mk (Kd.R_over' (kr_ HO302) (Kd.R_typed (kr_ HO305)) (by decide) hg)
       have n5_ := Aside0.mk (hb); have n6_ := Aside0.mk (ho); clear BK289 BK290 HO296 BK299 HO302 HB HO305; have BK289 := n0_; have BK290 := n1_; have HO296 := n2_; have BK299 := n3_; have HO302 := n4_; have HB := n5_; have HO308 := n6_; clear n0_ n1_ n2_ n3_ n4_ n5_ n6_ ho hb hg hat
       obtain ⟨Ao31, co31, eo31⟩ := Kd.R_slice HO308.out
       (first | subst eo31 | (injection eo31 with f1_ f2_ f3_; have f4_ := f1_.symm; have f5_ := f3_.symm; clear f1_ f2_ f3_; subst f4_; subst f5_))
       refine hK.out _ _ ⟨bt_ BK299 0, bt_ BK299 1, bt_ BK289 0, bt_ BK289 1, bt_ BK289 2⟩ (fun hHeld => ?_)
       clear hK K
       refine norm_ (a' := ?_) ?_ ?_
       rotate_left
       ·show Act.put _ (some 38) _ = _
        simp only [Act.put, ls0_, ls1_, ls2_, i64_w, i32_w]
        rfl
       refine ps_ 5 39 (bs 8 6) HT_ ?_
       refine on_ 6 (some 11) (bs 8 7) HT_ (fun K hK => ?_)
       refine box_step ?hg (N := 11) ?hd (cs := #[.int .i64 0, .slice none 0 0, .slice none 0 0]) (t := 36) ?hr ?_; (case hd => rfl); (case hg => rfl); (case hr => first | (go_simp; done) | (go_simp; rfl))
       intro gb309 hg w32 hbox hb
       replace HO296 := Aside0.mk (Kd.R_below (kr_ HO296) hb); replace HO302 := Aside0.mk (Kd.R_below (kr_ HO302) hb); replace HO308 := Aside0.mk (Kd.R_below (kr_ HO308) hb); have BK309 := Aside0.mk (hbox); have GW309 := gw_ HB hg; have GE309 := gw_ HB hg; replace HB := Aside0.mk (below_step (bf_ HB) hb); have NB289_309 := nl_ BK289 hg; have NB309_289 := ng_ BK289 hg; replace BK289 := bb_ BK289 hb; have NB290_309 := nl_ BK290 hg; have NB309_290 := ng_ BK290 hg; replace BK290 := bb_ BK290 hb; have NB299_309 := nl_ BK299 hg; have NB309_299 := ng_ BK299 hg; replace BK299 := bb_ BK299 hb; clear hb hbox hg
       refine hK.out _ _ ⟨bt_ BK299 0, bt_ BK299 1, bt_ BK289 0, bt_ BK289 1, bt_ BK289 2⟩ (fun hHeld => ?_)
       clear hK K
       refine norm_ (a' := ?_) ?_ ?_
       rotate_left
       ·show Act.put _ (some 11) _ = _
        simp only [Act.put, ls0_, ls1_, ls2_, i64_w, i32_w]
        rfl
       exact norm_ (by simp only [putAll, Act.put, ls0_, ls1_, ls2_]) (hCont (v304, .slice Ao31 y306.length co31, gb309) _ ⟨hHeld, (by (with_reducible repeat (first | apply Kd.R_alloc | apply Kd.R_drewN | apply Kd.R_drew)); exact Kd.R_mono HO296.out (fun _ hk => by first | exact hk.2 | grind)), (by (with_reducible repeat (first | apply Kd.R_alloc | apply Kd.R_drewN | apply Kd.R_drew)); exact Kd.R_mono HO302.out (fun _ hk => by first | exact hk.2 | grind)), (kr_ HO308), (bk_ BK289), (bk_ BK290), (bk_ BK299), (bk_ BK309), GW309.out, GE309.out, NB289_309.out, NB309_289.out, NB290_309.out, NB309_290.out, NB299_309.out, NB309_299.out, (bf_ HB)⟩)
      ·skip
       refine box_step ?hg (N := 11) ?hd (cs := #[.int .i64 0, .slice none 0 0, .slice none 0 0]) (t := 36) ?hr ?_; (case hd => rfl); (case hg => rfl); (case hr => first | (go_simp; done) | (go_simp; rfl))
       intro gb309 hg w30 hbox hb
       replace HO296 := Aside0.mk (Kd.R_below (kr_ HO296) hb); replace HO302 := Aside0.mk (Kd.R_below (kr_ HO302) hb); replace HO305 := Aside0.mk (Kd.R_below (kr_ HO305) hb); have BK309 := Aside0.mk (hbox); have GW309 := gw_ HB hg; have GE309 := gw_ HB hg; replace HB := Aside0.mk (below_step (bf_ HB) hb); have NB289_309 := nl_ BK289 hg; have NB309_289 := ng_ BK289 hg; replace BK289 := bb_ BK289 hb; have NB290_309 := nl_ BK290 hg; have NB309_290 := ng_ BK290 hg; replace BK290 := bb_ BK290 hb; have NB299_309 := nl_ BK299 hg; have NB309_299 := ng_ BK299 hg; replace BK299 := bb_ BK299 hb; clear hb hbox hg
       refine hK.out _ _ ⟨bt_ BK299 0, bt_ BK299 1, bt_ BK289 0, bt_ BK289 1, bt_ BK289 2⟩ (fun hHeld => ?_)
       clear hK K
       refine norm_ (a' := ?_) ?_ ?_
       rotate_left
       ·show Act.put _ (some 11) _ = _
        simp only [Act.put, ls0_, ls1_, ls2_, i64_w, i32_w]
        rfl
       refine on_ 4 (some 38) (bm 8 95) HT_ (fun K hK => ?_)
       refine Kd.R_append_rows_step (Kd.int .u8) (w0 := w) w.heap.size (by rfl) (.tmp 35) (.tmp 37) 34 5 (.int .u8 0) 1 rfl Try.underlying34 info5 rfl (by decide) (by omega) v304 y303 l0_2 _ _ _ (fun _ => True) (fun _ => False) rfl rfl ?aO ?aR (fun _ _ h => h) (fun _ h => h.elim) ?aF ?aB ?aS ?aL ?_
       (case aR => repeat (first | exact (Kd.C_below HR0_2.out HB.out) | (with_reducible refine Kd.C_alloc ?_ _) | (with_reducible refine Kd.C_drewN ?_ _) | (with_reducible refine Kd.C_drew ?_)))
       (case aB => exact (bf_ HB))
       (case aF => exact (fun _ _ => trivial))
       (case aO => exact (kr_ HO305))
       (case aS => exact (below_size (bf_ HB)))
       (case aL => have := LMc9.out; omega)
       intro v307 w31 ho hb hg hat
       rw [← Ny306.out] at ho
       have n0_ := Aside0.mk (blk_grown (g := gb289) (o := .cells #[.int .i64 a0_0, .slice A0_1 l0_1.length c0_1, .slice A0_2 l0_2.length c0_2] 36 (0, 0)) (bk_ BK289) hg (Kd.R_ne HO305.out BK289.out (by decide)))
       have n1_ := Aside0.mk (blk_grown (g := gb290) (o := .cells #[.int .i64 0, .slice none 0 0, .slice none 0 0] 36 (0, 0)) (bk_ BK290) hg (Kd.R_ne HO305.out BK290.out (by decide)))
       have n2_ := Aside0.mk (Kd.R_over' (kr_ HO296) (Kd.R_typed (kr_ HO305)) (by decide) hg)
       have n3_ := Aside0.mk (blk_grown (g := gb299) (o := .cells #[.int .i64 t293, .slice Ao21 t294.length co21] 24 (0, 0)) (bk_ BK299) hg (Kd.R_ne HO305.out BK299.out (by decide)))
       have n4_ := Aside0.mk (Kd.R_over' (kr_ HO302) (Kd.R_typed (kr_ HO305)) (by decide) hg)
       have n5_ := Aside0.mk (blk_grown (g := gb309) (o := .cells #[.int .i64 0, .slice none 0 0, .slice none 0 0] 36 (0, 0)) (bk_ BK309) hg (Kd.R_ne HO305.out BK309.out (by decide)))
       have n6_ := Aside0.mk (hb); have n7_ := Aside0.mk (ho); clear BK289 BK290 HO296 BK299 HO302 BK309 HB HO305; have BK289 := n0_; have BK290 := n1_; have HO296 := n2_; have BK299 := n3_; have HO302 := n4_; have BK309 := n5_; have HB := n6_; have HO308 := n7_; clear n0_ n1_ n2_ n3_ n4_ n5_ n6_ n7_ ho hb hg hat
       obtain ⟨Ao32, co32, eo32⟩ := Kd.R_slice HO308.out
       (first | subst eo32 | (injection eo32 with f1_ f2_ f3_; have f4_ := f1_.symm; have f5_ := f3_.symm; clear f1_ f2_ f3_; subst f4_; subst f5_))
       refine hK.out _ _ ⟨bt_ BK299 0, bt_ BK299 1, bt_ BK289 0, bt_ BK289 1, bt_ BK289 2⟩ (fun hHeld => ?_)
       clear hK K
       refine norm_ (a' := ?_) ?_ ?_
       rotate_left
       ·show Act.put _ (some 38) _ = _
        simp only [Act.put, ls0_, ls1_, ls2_, i64_w, i32_w]
        rfl
       refine ps_ 5 39 (bs 8 7) HT_ ?_
       exact norm_ (by simp only [putAll, Act.put, ls0_, ls1_, ls2_]) (hCont (v304, .slice Ao32 y306.length co32, gb309) _ ⟨hHeld, (by (with_reducible repeat (first | apply Kd.R_alloc | apply Kd.R_drewN | apply Kd.R_drew)); exact Kd.R_mono HO296.out (fun _ hk => by first | exact hk.2 | grind)), (by (with_reducible repeat (first | apply Kd.R_alloc | apply Kd.R_drewN | apply Kd.R_drew)); exact Kd.R_mono HO302.out (fun _ hk => by first | exact hk.2 | grind)), (kr_ HO308), (bk_ BK289), (bk_ BK290), (bk_ BK299), (bk_ BK309), GW309.out, GE309.out, NB289_309.out, NB309_289.out, NB290_309.out, NB309_290.out, NB299_309.out, NB309_299.out, (bf_ HB)⟩)
     ·skip
      refine box_step ?hg (N := 11) ?hd (cs := #[.int .i64 0, .slice none 0 0, .slice none 0 0]) (t := 36) ?hr ?_; (case hd => rfl); (case hg => rfl); (case hr => first | (go_simp; done) | (go_simp; rfl))
      intro gb309 hg w28 hbox hb
      replace HO296 := Aside0.mk (Kd.R_below (kr_ HO296) hb); replace HO302 := Aside0.mk (Kd.R_below (kr_ HO302) hb); have BK309 := Aside0.mk (hbox); have GW309 := gw_ HB hg; have GE309 := gw_ HB hg; replace HB := Aside0.mk (below_step (bf_ HB) hb); have NB289_309 := nl_ BK289 hg; have NB309_289 := ng_ BK289 hg; replace BK289 := bb_ BK289 hb; have NB290_309 := nl_ BK290 hg; have NB309_290 := ng_ BK290 hg; replace BK290 := bb_ BK290 hb; have NB299_309 := nl_ BK299 hg; have NB309_299 := ng_ BK299 hg; replace BK299 := bb_ BK299 hb; clear hb hbox hg
      refine hK.out _ _ ⟨bt_ BK299 0, bt_ BK299 1, bt_ BK289 0, bt_ BK289 1, bt_ BK289 2⟩ (fun hHeld => ?_)
      clear hK K
      refine norm_ (a' := ?_) ?_ ?_
      rotate_left
      ·show Act.put _ (some 11) _ = _
       simp only [Act.put, ls0_, ls1_, ls2_, i64_w, i32_w]
       rfl
      refine on_ 1 (some 35) (bm 8 79) HT_ (fun K hK => ?_)
      refine Kd.R_lit_step (Kd.int .u8) _ 5 ?hg (N := 35) ?hd (xs := ([] : List Int)) (inner := []) (ok := fun _ => True) (okp := fun _ => True) ?hr ?hp (fun _ hk => by first | exact hk | grind) trivial (Below.refl _ _) (Nat.le_refl _) (by simp) ?_; (case hd => rfl); (case hg => rfl); (case hr => first | (go_simp; done) | (go_simp; rfl)); (case hp => exact (Reps.none _ _))
      intro v304 w29 ho30 hb hg_ hnew_
      clear hg_ hnew_
      (first | rw [← Ny303.out] at ho30 | (simp only [Int.reduceToNat] at ho30; rw [← Ny303.out] at ho30))
      replace HO296 := Aside0.mk (Kd.R_below (kr_ HO296) hb); replace HO302 := Aside0.mk (Kd.R_below (kr_ HO302) hb); have HO305 := Aside0.mk (Kd.R_lower ho30 (below_size (bf_ HB))); replace BK289 := bb_ BK289 hb; replace BK290 := bb_ BK290 hb; replace BK299 := bb_ BK299 hb; replace BK309 := bb_ BK309 hb; replace HB := Aside0.mk (below_step (bf_ HB) hb); clear hb ho30
      refine hK.out _ _ ⟨bt_ BK299 0, bt_ BK299 1, bt_ BK289 0, bt_ BK289 1, bt_ BK289 2⟩ (fun hHeld => ?_)
      clear hK K
      refine norm_ (a' := ?_) ?_ ?_
      rotate_left
      ·show Act.put _ (some 35) _ = _
       simp only [Act.put, ls0_, ls1_, ls2_, i64_w, i32_w]
       rfl
      refine on_ 4 (some 38) (bm 8 95) HT_ (fun K hK => ?_)
      refine Kd.R_append_rows_step (Kd.int .u8) (w0 := w) w.heap.size (by rfl) (.tmp 35) (.tmp 37) 34 5 (.int .u8 0) 1 rfl Try.underlying34 info5 rfl (by decide) (by omega) v304 y303 l0_2 _ _ _ (fun _ => True) (fun _ => False) rfl rfl ?aO ?aR (fun _ _ h => h) (fun _ h => h.elim) ?aF ?aB ?aS ?aL ?_
      (case aR => repeat (first | exact (Kd.C_below HR0_2.out HB.out) | (with_reducible refine Kd.C_alloc ?_ _) | (with_reducible refine Kd.C_drewN ?_ _) | (with_reducible refine Kd.C_drew ?_)))
      (case aB => exact (bf_ HB))
      (case aF => exact (fun _ _ => trivial))
      (case aO => exact (kr_ HO305))
      (case aS => exact (below_size (bf_ HB)))
      (case aL => have := LMc9.out; omega)
      intro v307 w31 ho hb hg hat
      rw [← Ny306.out] at ho
      have n0_ := Aside0.mk (blk_grown (g := gb289) (o := .cells #[.int .i64 a0_0, .slice A0_1 l0_1.length c0_1, .slice A0_2 l0_2.length c0_2] 36 (0, 0)) (bk_ BK289) hg (Kd.R_ne HO305.out BK289.out (by decide)))
      have n1_ := Aside0.mk (blk_grown (g := gb290) (o := .cells #[.int .i64 0, .slice none 0 0, .slice none 0 0] 36 (0, 0)) (bk_ BK290) hg (Kd.R_ne HO305.out BK290.out (by decide)))
      have n2_ := Aside0.mk (Kd.R_over' (kr_ HO296) (Kd.R_typed (kr_ HO305)) (by decide) hg)
      have n3_ := Aside0.mk (blk_grown (g := gb299) (o := .cells #[.int .i64 t293, .slice Ao21 t294.length co21] 24 (0, 0)) (bk_ BK299) hg (Kd.R_ne HO305.out BK299.out (by decide)))
      have n4_ := Aside0.mk (Kd.R_over' (kr_ HO302) (Kd.R_typed (kr_ HO305)) (by decide) hg)
      have n5_ := Aside0.mk (blk_grown (g := gb309) (o := .cells #[.int .i64 0, .slice none 0 0, .slice none 0 0] 36 (0, 0)) (bk_ BK309) hg (Kd.R_ne HO305.out BK309.out (by decide)))
      have n6_ := Aside0.mk (hb); have n7_ := Aside0.mk (ho); clear BK289 BK290 HO296 BK299 HO302 BK309 HB HO305; have BK289 := n0_; have BK290 := n1_; have HO296 := n2_; have BK299 := n3_; have HO302 := n4_; have BK309 := n5_; have HB := n6_; have HO308 := n7_; clear n0_ n1_ n2_ n3_ n4_ n5_ n6_ n7_ ho hb hg hat
      obtain ⟨Ao32, co32, eo32⟩ := Kd.R_slice HO308.out
      (first | subst eo32 | (injection eo32 with f1_ f2_ f3_; have f4_ := f1_.symm; have f5_ := f3_.symm; clear f1_ f2_ f3_; subst f4_; subst f5_))
      refine hK.out _ _ ⟨bt_ BK299 0, bt_ BK299 1, bt_ BK289 0, bt_ BK289 1, bt_ BK289 2⟩ (fun hHeld => ?_)
      clear hK K
      refine norm_ (a' := ?_) ?_ ?_
      rotate_left
      ·show Act.put _ (some 38) _ = _
       simp only [Act.put, ls0_, ls1_, ls2_, i64_w, i32_w]
       rfl
      refine ps_ 5 39 (bs 8 7) HT_ ?_
      exact norm_ (by simp only [putAll, Act.put, ls0_, ls1_, ls2_]) (hCont (v304, .slice Ao32 y306.length co32, gb309) _ ⟨hHeld, (by (with_reducible repeat (first | apply Kd.R_alloc | apply Kd.R_drewN | apply Kd.R_drew)); exact Kd.R_mono HO296.out (fun _ hk => by first | exact hk.2 | grind)), (by (with_reducible repeat (first | apply Kd.R_alloc | apply Kd.R_drewN | apply Kd.R_drew)); exact Kd.R_mono HO302.out (fun _ hk => by first | exact hk.2 | grind)), (kr_ HO308), (bk_ BK289), (bk_ BK290), (bk_ BK299), (bk_ BK309), GW309.out, GE309.out, NB289_309.out, NB309_289.out, NB290_309.out, NB309_290.out, NB299_309.out, NB309_299.out, (bf_ HB)⟩)
    rintro ⟨v304, v307, gb309⟩ w33 ⟨hS_, h0_, h1_, h2_, h3_, h4_, h5_, h6_, h7_, h8_, h9_, h10_, h11_, h12_, h13_, h14_, h15_⟩
    have n0_ : Aside0 (Kd.R (Kd.int .i64) 3 w33 w.heap.size (fun k_ => some k_ ≠ (v301 : Value).ownBlock) (.slice Ao21 t294.length co21) t294) := ⟨h0_⟩
    have n1_ : Aside0 (Kd.R (Kd.int .i64) 3 w33 w.heap.size (fun k_ => some k_ ≠ (.slice Ao21 t294.length co21 : Value).ownBlock) v301 t300) := ⟨h1_⟩
    have n2_ : Aside0 (Kd.R (Kd.int .u8) 5 w33 w.heap.size (fun _ => True) v307 y306) := ⟨h2_⟩
    have n3_ : Aside0 (w33.heap[gb289]? = some (.cells #[.int .i64 a0_0, .slice A0_1 l0_1.length c0_1, .slice A0_2 l0_2.length c0_2] 36 (0, 0))) := ⟨h3_⟩
    have n4_ : Aside0 (w33.heap[gb290]? = some (.cells #[.int .i64 0, .slice none 0 0, .slice none 0 0] 36 (0, 0))) := ⟨h4_⟩
    have n5_ : Aside0 (w33.heap[gb299]? = some (.cells #[.int .i64 t293, .slice Ao21 t294.length co21] 24 (0, 0))) := ⟨h5_⟩
    have n6_ : Aside0 (w33.heap[gb309]? = some (.cells #[.int .i64 0, .slice none 0 0, .slice none 0 0] 36 (0, 0))) := ⟨h6_⟩
    have n7_ : Aside0 (w.heap.size ≤ gb309) := ⟨h7_⟩
    have n8_ : Aside0 (w.heap.size ≤ gb309) := ⟨h8_⟩
    have n9_ : Aside0 (gb289 ≠ gb309) := ⟨h9_⟩
    have n10_ : Aside0 (gb309 ≠ gb289) := ⟨h10_⟩
    have n11_ : Aside0 (gb290 ≠ gb309) := ⟨h11_⟩
    have n12_ : Aside0 (gb309 ≠ gb290) := ⟨h12_⟩
    have n13_ : Aside0 (gb299 ≠ gb309) := ⟨h13_⟩
    have n14_ : Aside0 (gb309 ≠ gb299) := ⟨h14_⟩
    have n15_ : Aside0 (Below w.heap.size w w33) := ⟨h15_⟩
    clear HO296 HO302 BK289 BK290 BK299 HB h0_ h1_ h2_ h3_ h4_ h5_ h6_ h7_ h8_ h9_ h10_ h11_ h12_ h13_ h14_ h15_; have HO296 := n0_; have HO302 := n1_; have HO308 := n2_; have BK289 := n3_; have BK290 := n4_; have BK299 := n5_; have BK309 := n6_; have GW309 := n7_; have GE309 := n8_; have NB289_309 := n9_; have NB309_289 := n10_; have NB290_309 := n11_; have NB309_290 := n12_; have NB299_309 := n13_; have NB309_299 := n14_; have HB := n15_; clear n0_ n1_ n2_ n3_ n4_ n5_ n6_ n7_ n8_ n9_ n10_ n11_ n12_ n13_ n14_ n15_
    have hHeld : w33.cell? ⟨gb299, 0, none⟩ = some (.int .i64 t293) ∧ w33.cell? ⟨gb299, 1, none⟩ = some (.slice Ao21 t294.length co21) ∧ w33.cell? ⟨gb289, 0, none⟩ = some (.int .i64 a0_0) ∧ w33.cell? ⟨gb289, 1, none⟩ = some (.slice A0_1 l0_1.length c0_1) ∧ w33.cell? ⟨gb289, 2, none⟩ = some (.slice A0_2 l0_2.length c0_2) := hS_
    obtain ⟨Ao34, co34, eo34⟩ := Kd.R_slice HO308.out
    (first | subst eo34 | (injection eo34 with f1_ f2_ f3_; have f4_ := f1_.symm; have f5_ := f3_.symm; clear f1_ f2_ f3_; subst f4_; subst f5_))
    refine norm_ (a' := ?_) ?_ ?_
    rotate_left
    ·simp only [putAll, Act.put, ls0_, ls1_, ls2_]
     rfl
    refine on_ 7 none (bs 8 8) HT_ (fun K hK => ?_)
    have hs35 := bc_ BK309 0 (.int .i64 0) rfl; have hfs35 := blk_frozen BK309.out 0; have hns35_0 := NB289_309.out; have hns35_1 := NB290_309.out; have hns35_2 := NB299_309.out; have hms35_0 := NB309_289.out; have hms35_1 := NB309_290.out; have hms35_2 := NB309_299.out; have hs36 := bc_ BK309 1 (.slice none 0 0) rfl; have hfs36 := blk_frozen BK309.out 1; have hns36_0 := NB289_309.out; have hns36_1 := NB290_309.out; have hns36_2 := NB299_309.out; have hms36_0 := NB309_289.out; have hms36_1 := NB309_290.out; have hms36_2 := NB309_299.out; have hs37 := bc_ BK309 2 (.slice none 0 0) rfl; have hfs37 := blk_frozen BK309.out 2; have hns37_0 := NB289_309.out; have hns37_1 := NB290_309.out; have hns37_2 := NB299_309.out; have hms37_0 := NB309_289.out; have hms37_1 := NB309_290.out; have hms37_2 := NB309_299.out
    refine skip_ (w1 := ?_) (by rfl) rfl ?_ ?_
    rotate_left
    ·go_simp
     rfl
    refine hK.out _ _ ⟨(cf3_ NB299_309.out hHeld.1), (cf3_ NB299_309.out hHeld.2.1), (cf3_ NB289_309.out hHeld.2.2.1), (cf3_ NB289_309.out hHeld.2.2.2.1), (cf3_ NB289_309.out hHeld.2.2.2.2)⟩ (fun hHeld => ?_)
    clear hK K
    refine done_ (done_of HT_.out (by kernel_rfl)) ?_
    try go_wp2
    go_loopg [12] k (fun kq v12 w' => ∃ (x12_1 : Int) (x310002_1 : List Int) (u310002 : Value), v12 = .int .i64 x12_1 ∧ Aside0 (spec_StorePut.l0 kq l1 t297 t300 x12_1 t293 t294 x310002_1 = some (r1, r2, r3, r4, r5)) ∧ Aside0 (kq ≤ k) ∧ Aside0 (Kd.R (Kd.int .i64) 3 w' w.heap.size (fun k_ => some k_ ≠ ((.slice Ao21 t294.length co21) : Value).ownBlock ∧ some k_ ≠ ((.slice Ao21 t294.length co21) : Value).ownBlock) v301 t300) ∧ Aside0 (Kd.R (Kd.int .i64) 3 w' w.heap.size (fun k_ => some k_ ≠ (v301 : Value).ownBlock) (.slice Ao21 t294.length co21) t294) ∧ Aside0 (Kd.R (Kd.int .i64) 3 w' w.heap.size (fun k_ => some k_ ≠ (v301 : Value).ownBlock) (.slice Ao21 t294.length co21) t294) ∧ Aside0 (Kd.R (Kd.int .u8) 5 w' w.heap.size (fun _ => True) u310002 x310002_1) ∧ Aside0 (w'.heap[gb289]? = some (.cells #[.int .i64 a0_0, (.slice A0_1 l0_1.length c0_1), (.slice A0_2 l0_2.length c0_2)] 36 (0, 0))) ∧ Aside0 (w'.heap[gb290]? = some (.cells #[.int .i64 0, (.slice none 0 0), (.slice none 0 0)] 36 (0, 0))) ∧ Aside0 (w'.heap[gb299]? = some (.cells #[.int .i64 t293, (.slice Ao21 t294.length co21)] 24 (0, 0))) ∧ Aside0 (w'.heap[gb309]? = some (.cells #[.int .i64 t293, (.slice Ao21 t294.length co21), u310002] 36 (0, 0))) ∧ Aside0 (Below w.heap.size w w'))
    case atStart => exact ⟨(0), (y306), (.slice Ao34 y306.length co34), (by first | rfl | (simp; done) | (simp [*]; done)), H', ⟨Nat.le_refl _⟩, ⟨by (with_reducible repeat (first | apply Kd.R_alloc | apply Kd.R_drewN | apply Kd.R_drew)); exact Kd.R_mono (Kd.R_far (p := ⟨gb309, 2, none⟩) (Kd.R_far (p := ⟨gb309, 1, none⟩) (Kd.R_far (p := ⟨gb309, 0, none⟩) (Kd.R_types HO302.out BK309.out (by decide)) (fun _ hk => by first | exact hk.2 | grind) (.int .i64 t293)) (fun _ hk => by first | exact hk.2 | grind) (.slice Ao21 t294.length co21)) (fun _ hk => by first | exact hk.2 | grind) (.slice Ao34 y306.length co34)) (fun _ hk => by first | exact ⟨hk.1, hk.1⟩ | grind)⟩, ⟨by (with_reducible repeat (first | apply Kd.R_alloc | apply Kd.R_drewN | apply Kd.R_drew)); exact Kd.R_mono (Kd.R_far (p := ⟨gb309, 2, none⟩) (Kd.R_far (p := ⟨gb309, 1, none⟩) (Kd.R_far (p := ⟨gb309, 0, none⟩) (Kd.R_types HO296.out BK309.out (by decide)) (fun _ hk => by first | exact hk.2 | grind) (.int .i64 t293)) (fun _ hk => by first | exact hk.2 | grind) (.slice Ao21 t294.length co21)) (fun _ hk => by first | exact hk.2 | grind) (.slice Ao34 y306.length co34)) (fun _ hk => by first | exact hk.1 | grind)⟩, ⟨by (with_reducible repeat (first | apply Kd.R_alloc | apply Kd.R_drewN | apply Kd.R_drew)); exact Kd.R_mono (Kd.R_far (p := ⟨gb309, 2, none⟩) (Kd.R_far (p := ⟨gb309, 1, none⟩) (Kd.R_far (p := ⟨gb309, 0, none⟩) (Kd.R_types HO296.out BK309.out (by decide)) (fun _ hk => by first | exact hk.2 | grind) (.int .i64 t293)) (fun _ hk => by first | exact hk.2 | grind) (.slice Ao21 t294.length co21)) (fun _ hk => by first | exact hk.2 | grind) (.slice Ao34 y306.length co34)) (fun _ hk => by first | exact hk.1 | grind)⟩, ⟨by (with_reducible repeat (first | apply Kd.R_alloc | apply Kd.R_drewN | apply Kd.R_drew)); exact Kd.R_mono (Kd.R_far (p := ⟨gb309, 2, none⟩) (Kd.R_far (p := ⟨gb309, 1, none⟩) (Kd.R_far (p := ⟨gb309, 0, none⟩) (Kd.R_types HO308.out BK309.out (by decide)) (fun _ hk => by first | exact hk.2 | grind) (.int .i64 t293)) (fun _ hk => by first | exact hk.2 | grind) (.slice Ao21 t294.length co21)) (fun _ hk => by first | exact hk.2 | grind) (.slice Ao34 y306.length co34)) (fun _ hk => by first | exact trivial | grind)⟩, ⟨by (with_reducible repeat (first | refine blk_drewN ?_ _ | refine blk_drew ?_ | refine blk_alloc ?_ _)); refine blk_far ?_ NB289_309.out _; (with_reducible repeat (first | refine blk_drewN ?_ _ | refine blk_drew ?_ | refine blk_alloc ?_ _)); refine blk_far ?_ NB289_309.out _; (with_reducible repeat (first | refine blk_drewN ?_ _ | refine blk_drew ?_ | refine blk_alloc ?_ _)); refine blk_far ?_ NB289_309.out _; exact bk_ BK289⟩, ⟨by (with_reducible repeat (first | refine blk_drewN ?_ _ | refine blk_drew ?_ | refine blk_alloc ?_ _)); refine blk_far ?_ NB290_309.out _; (with_reducible repeat (first | refine blk_drewN ?_ _ | refine blk_drew ?_ | refine blk_alloc ?_ _)); refine blk_far ?_ NB290_309.out _; (with_reducible repeat (first | refine blk_drewN ?_ _ | refine blk_drew ?_ | refine blk_alloc ?_ _)); refine blk_far ?_ NB290_309.out _; exact bk_ BK290⟩, ⟨by (with_reducible repeat (first | refine blk_drewN ?_ _ | refine blk_drew ?_ | refine blk_alloc ?_ _)); refine blk_far ?_ NB299_309.out _; (with_reducible repeat (first | refine blk_drewN ?_ _ | refine blk_drew ?_ | refine blk_alloc ?_ _)); refine blk_far ?_ NB299_309.out _; (with_reducible repeat (first | refine blk_drewN ?_ _ | refine blk_drew ?_ | refine blk_alloc ?_ _)); refine blk_far ?_ NB299_309.out _; exact bk_ BK299⟩, ⟨by (with_reducible repeat (first | refine blk_drewN ?_ _ | refine blk_drew ?_ | refine blk_alloc ?_ _)); refine blk_put (cs := #[.int .i64 t293, .slice Ao21 t294.length co21, .slice none 0 0]) ?_ 2 _ rfl; (with_reducible repeat (first | refine blk_drewN ?_ _ | refine blk_drew ?_ | refine blk_alloc ?_ _)); refine blk_put (cs := #[.int .i64 t293, .slice none 0 0, .slice none 0 0]) ?_ 1 _ rfl; (with_reducible repeat (first | refine blk_drewN ?_ _ | refine blk_drew ?_ | refine blk_alloc ?_ _)); refine blk_put (cs := #[.int .i64 0, .slice none 0 0, .slice none 0 0]) ?_ 0 _ rfl; exact bk_ BK309⟩, ⟨bf_ HB⟩⟩
    case round =>
     clear H'
     (try clear c2); (try clear p2); (try clear c7); (try clear c9); (try clear c23); (try clear c24); (try clear hcz25_0 hcz25_1 hfz25_0 hfz25_1)
     obtain ⟨x12_1, x310002_1, u310002, rfl, HA, HK1, HO_10, HO_300001, HO_310001, HO_310002, BK289, BK290, BK299, BK309, HB⟩ := hrel
     cases gk with
     | zero => exact absurd HA.out (by simp [spec_StorePut.l0])
     | succ k1 =>
      have H := HA.out
      clear HA
      simp only [spec_StorePut.l0] at H
      by_cases c38 : x12_1 < (l1.length : Int)
      ·rw [if_pos c38] at H
       have c38b0 : decide (x12_1 < (l1.length : Int)) = true := decide_eq_true c38
       clear c38
       obtain ⟨ji39, hji39⟩ : ∃ j_ : Int, (wrap64 (Int.tdiv x12_1 16)) = j_ := ⟨_, rfl⟩
       replace H : (if 0 ≤ (ji39) then (if (ji39) < (t300.length : Int) then (if 0 ≤ x12_1 then (if 0 ≤ (wrap64 ((wrap64 ((rd t300 (ji39)) * 16)) + (Int.tmod x12_1 16))) then (if (wrap64 ((wrap64 ((rd t300 (ji39)) * 16)) + (Int.tmod x12_1 16))) < (x310002_1.length : Int) then (spec_StorePut.l0 k1 l1 t297 t300 (wrap64 (x12_1 + 1)) t293 t294 (x310002_1.set ((wrap64 ((wrap64 ((rd t300 (ji39)) * 16)) + (Int.tmod x12_1 16))) : Int).toNat (rd l1 x12_1))) else (none)) else (none)) else (none)) else (none)) else (none)) = some (r1, r2, r3, r4, r5) := by first | (rw [hji39] at H; exact H) | (simp only [hji39] at H ⊢; exact H)
       have hji39w : (IntKind.i64.wrap (Int.tdiv x12_1 16)) = ji39 := (i64_w _).trans hji39
       by_cases c40 : 0 ≤ (ji39)
       ·rw [if_pos c40] at H
        have c40b0 : decide (0 ≤ (ji39)) = true := decide_eq_true c40
        clear c40
        by_cases c41 : (ji39) < (t300.length : Int)
        ·rw [if_pos c41] at H
         have c41b0 : decide ((ji39) < (t300.length : Int)) = true := decide_eq_true c41
         clear c41
         by_cases c42 : 0 ≤ x12_1
         ·rw [if_pos c42] at H
          have c42b0 : decide (0 ≤ x12_1) = true := decide_eq_true c42
          clear c42
          obtain ⟨ji43, hji43⟩ : ∃ j_ : Int, (wrap64 ((wrap64 ((rd t300 (ji39)) * 16)) + (Int.tmod x12_1 16))) = j_ := ⟨_, rfl⟩
          replace H : (if 0 ≤ (ji43) then (if (ji43) < (x310002_1.length : Int) then (spec_StorePut.l0 k1 l1 t297 t300 (wrap64 (x12_1 + 1)) t293 t294 (x310002_1.set ((ji43) : Int).toNat (rd l1 x12_1))) else (none)) else (none)) = some (r1, r2, r3, r4, r5) := by first | (rw [hji43] at H; exact H) | (simp only [hji43] at H ⊢; exact H)
          have hji43w : (IntKind.i64.wrap ((wrap64 ((rd t300 (ji39)) * 16)) + (Int.tmod x12_1 16))) = ji43 := (i64_w _).trans hji43
          by_cases c44 : 0 ≤ (ji43)
          ·rw [if_pos c44] at H
           have c44b0 : decide (0 ≤ (ji43)) = true := decide_eq_true c44
           clear c44
           by_cases c45 : (ji43) < (x310002_1.length : Int)
           ·rw [if_pos c45] at H
            have c45b0 : decide ((ji43) < (x310002_1.length : Int)) = true := decide_eq_true c45
            clear c45
            obtain ⟨y312, hy312⟩ : ∃ y_ : List Int, y_ = (x310002_1.set ((ji43) : Int).toNat (rd l1 x12_1)) := ⟨_, rfl⟩
            replace H : (spec_StorePut.l0 k1 l1 t297 t300 (wrap64 (x12_1 + 1)) t293 t294 y312) = some (r1, r2, r3, r4, r5) := by first | (rw [hy312]; with_reducible exact H) | (have H2_ := (Option.bind_some _ _).symm.trans H; rw [hy312]; with_reducible exact H2_) | (have H2_ := (Option.bind_some _ _).symm.trans H; with_reducible exact H2_) | with_reducible exact H | (rw [hy312]; exact H) | exact H
            have Ny312 := Aside0.mk hy312
            clear hy312
            have H' := Aside0.mk H
            clear H
            try go_wp2
            replace HO_10 := Aside0.mk (Kd.R_drew HO_10.out); replace HO_300001 := Aside0.mk (Kd.R_drew HO_300001.out); replace HO_310001 := Aside0.mk (Kd.R_drew HO_310001.out); replace HO_310002 := Aside0.mk (Kd.R_drew HO_310002.out); replace BK289 := Aside0.mk (blk_drew BK289.out); replace BK290 := Aside0.mk (blk_drew BK290.out); replace BK299 := Aside0.mk (blk_drew BK299.out); replace BK309 := Aside0.mk (blk_drew BK309.out); replace HB := Aside0.mk (below_drew1 HB.out)
            obtain ⟨Ao48, co48, eo48⟩ := Kd.R_slice HO_10.out
            (first | subst eo48 | (injection eo48 with f1_ f2_ f3_; have f4_ := f1_.symm; have f5_ := f3_.symm; clear f1_ f2_ f3_; subst f4_; subst f5_))
            have p310 : 0 ≤ ((ji39) : Int) := od_
            have q310 : (ji39) < (t300.length : Int) := od_
            obtain ⟨ad310, e310, hx310_0⟩ := Kd.at_int (Kd.R_reads' HO_10.out).2.2 (ji39) p310 q310
            cases e310
            replace p310 := eq_true p310
            replace q310 := eq_true q310
            have p311 : 0 ≤ (x12_1 : Int) := od_
            have q311 : x12_1 < (l1.length : Int) := od_
            obtain ⟨ad311, e311, hx311_0⟩ := Kd.at_int HR1.out x12_1 p311 q311
            have hw311_0 := hx311_0
            cases e311
            replace hx311_0 := hb_ HB hx311_0
            replace p311 := eq_true p311
            replace q311 := eq_true q311
            have p46 : 0 ≤ ((ji43) : Int) := od_
            have q46 : ((ji43) : Int) < ((x310002_1.length : Int) : Int) := od_
            obtain ⟨go46, co46, eo46, gb46, gl46, cl46, HG46⟩ := Kd.R_form HO_310002.out (by omega)
            (first | cases eo46 | (injection eo46 with ea_ en_ ec_; (first | subst ea_ | (injection ea_ with ea_; subst ea_)); subst ec_; clear en_))
            have GB46 := Aside0.mk gb46
            have GG46 := Aside0.mk HG46
            clear gb46 gl46 HG46
            obtain ⟨hx46_0, hf46_0⟩ := Kd.R_celln 0 HO_310002.out ((ji43) : Int) p46 q46
            replace p46 := eq_true p46
            replace q46 := eq_true q46
            have HP49 := Kd.R_putn HO_310002.out ((ji43) : Int) (rd l1 x12_1)
            rw [← Ny312.out] at HP49
            have HQ49 := Aside0.mk HP49
            clear HP49
            refine start_ (n := 17) (S := fun w' => cw_ w' gb309 0 (.int .i64 t293) ∧ cw_ w' gb309 1 (.slice Ao21 t294.length co21) ∧ cw_ w' gb309 2 (.slice (some ⟨go46, 0, none⟩) x310002_1.length co46) ∧ w'.cell? (ad310.add ((ji39)).toNat) = some (.int .i64 (rd t300 (ji39))) ∧ w'.cell? (ad311.add (x12_1).toNat) = some (.int .u8 (rd l1 x12_1))) (ds := [16]) (bs 17 0) (by kernel_rfl) rfl rfl ⟨bt_ BK309 0, bt_ BK309 1, bt_ BK309 2, hx310_0, (hd_ HB hw311_0)⟩ (fun hHeld => ?_); refine with_tabW spec_StorePut.tab11 spec_StorePut.bits11 (fun HT_ HW_ => ?_)
            generalize wr.drew = w47 at HO_10 HO_300001 HO_310001 HO_310002 BK289 BK290 BK299 BK309 HB GG46 HQ49 hf46_0 hx310_0 hx311_0 hx46_0 hHeld ⊢
            refine ps_ 0 46 (bs 17 1) HT_ ?_
            refine ps_ 2 48 (bm 17 5) HT_ ?_
            refine ps_ 3 49 (bm 17 13) HT_ ?_
            refine ps_ 4 50 (bm 17 29) HT_ ?_
            refine ps_ 5 51 (bm 17 61) HT_ ?_
            refine ps_ 8 54 (bm 17 317) HT_ ?_
            refine ps_ 9 55 (bm 17 829) HT_ ?_
            refine ps_ 11 57 (bm 17 2877) HT_ ?_
            refine ps_ 12 58 (bm 17 6973) HT_ ?_
            refine ps_ 13 59 (bm 17 15165) HT_ ?_
            refine tk_ 1 47 (bm 17 15167) HT_ HW_ hHeld ?_
            refine tk_ 6 52 (bm 17 15231) HT_ HW_ hHeld ?_
            refine ps_ 7 53 (bm 17 15359) HT_ ?_
            refine ps_ 10 56 (bs 17 14) HT_ ?_
            refine tk_ 14 60 (bs 17 15) HT_ HW_ hHeld ?_
            refine ps_ 15 61 (bs 17 16) HT_ ?_
            refine last_ (i := 16) (N := none) (bs 17 17) rfl rfl (one_of HT_.out (by kernel_rfl)) (by decide) (fun K hK => ?_)
            refine skip_ (w1 := ?_) (by rfl) rfl ?_ ?_
            rotate_left
            ·go_simp
             rfl
            refine hK.out _ _ ?_
            clear hK K
            refine done_ (done_of HT_.out (by kernel_rfl)) ?_
            try go_wp2
            go_roundg k1
            case measure => have := HK1.out; omega
            case rel => exact ⟨(wrap64 (x12_1 + 1)), (y312), (.slice (some ⟨go46, 0, none⟩) x310002_1.length co46), (by first | rfl | (simp; done) | (simp [*]; done)), H', ⟨by have := HK1.out; omega⟩, ⟨by (with_reducible repeat (first | apply Kd.R_alloc | apply Kd.R_drewN | apply Kd.R_drew)); exact Kd.R_mono (Kd.R_far (p := ⟨go46, ((ji43) : Int).toNat, none⟩) (Kd.R_types HO_10.out GG46.out (by decide)) (fun _ hk => by first | exact hk.2 | grind) (.int .u8 (rd l1 x12_1))) (fun _ hk => by first | exact ⟨hk.1.1, hk.1.2⟩ | grind)⟩, ⟨by (with_reducible repeat (first | apply Kd.R_alloc | apply Kd.R_drewN | apply Kd.R_drew)); exact Kd.R_mono (Kd.R_far (p := ⟨go46, ((ji43) : Int).toNat, none⟩) (Kd.R_types HO_300001.out GG46.out (by decide)) (fun _ hk => by first | exact hk.2 | grind) (.int .u8 (rd l1 x12_1))) (fun _ hk => by first | exact hk.1 | grind)⟩, ⟨by (with_reducible repeat (first | apply Kd.R_alloc | apply Kd.R_drewN | apply Kd.R_drew)); exact Kd.R_mono (Kd.R_far (p := ⟨go46, ((ji43) : Int).toNat, none⟩) (Kd.R_types HO_310001.out GG46.out (by decide)) (fun _ hk => by first | exact hk.2 | grind) (.int .u8 (rd l1 x12_1))) (fun _ hk => by first | exact hk.1 | grind)⟩, ⟨kr_ HQ49⟩, ⟨by (with_reducible repeat (first | refine blk_drewN ?_ _ | refine blk_drew ?_ | refine blk_alloc ?_ _)); refine blk_far ?_ (by have h_ := Kd.R_ne HO_310002.out BK289.out (by decide); intro e_; exact h_ (by rw [e_]; rfl)) _; exact bk_ BK289⟩, ⟨by (with_reducible repeat (first | refine blk_drewN ?_ _ | refine blk_drew ?_ | refine blk_alloc ?_ _)); refine blk_far ?_ (by have h_ := Kd.R_ne HO_310002.out BK290.out (by decide); intro e_; exact h_ (by rw [e_]; rfl)) _; exact bk_ BK290⟩, ⟨by (with_reducible repeat (first | refine blk_drewN ?_ _ | refine blk_drew ?_ | refine blk_alloc ?_ _)); refine blk_far ?_ (by have h_ := Kd.R_ne HO_310002.out BK299.out (by decide); intro e_; exact h_ (by rw [e_]; rfl)) _; exact bk_ BK299⟩, ⟨by (with_reducible repeat (first | refine blk_drewN ?_ _ | refine blk_drew ?_ | refine blk_alloc ?_ _)); refine blk_far ?_ (by have h_ := Kd.R_ne HO_310002.out BK309.out (by decide); intro e_; exact h_ (by rw [e_]; rfl)) _; exact bk_ BK309⟩, ⟨by repeat (first | (with_reducible first | exact HB.out | apply below_alloc | apply pw_below_drewN | apply below_drew1 | refine below_set ?_ GB46.out | refine below_set ?_ GE289.out | refine below_set ?_ GE290.out | refine below_set ?_ GE299.out | refine below_set ?_ GE309.out) | exact HB.out)⟩⟩
           ·rw [if_neg c45] at H
            exact absurd H (by simp)
          ·rw [if_neg c44] at H
           exact absurd H (by simp)
         ·rw [if_neg c42] at H
          exact absurd H (by simp)
        ·rw [if_neg c41] at H
         exact absurd H (by simp)
       ·rw [if_neg c40] at H
        exact absurd H (by simp)
      ·rw [if_neg c38] at H
       have c38b0 : decide (x12_1 < (l1.length : Int)) = false := decide_eq_false c38
       clear c38
       simp only [Option.some.injEq, Prod.mk.injEq] at H
       obtain ⟨rfl, rfl, rfl, rfl, rfl⟩ := H
       have hnb50 := NB309_289.out; have hnc50 := NB289_309.out; have hnb51 := NB309_290.out; have hnc51 := NB290_309.out; have hnb52 := NB309_299.out; have hnc52 := NB299_309.out; obtain ⟨hcz53_0, hcz53_1, hcz53_2, hfz53_0, hfz53_1, hfz53_2⟩ := bz3_ BK309; have hnb54 := NB290_289.out; have hnc54 := NB289_290.out; have hnb55 := NB290_299.out; have hnc55 := NB299_290.out; obtain ⟨hcz56_0, hcz56_1, hcz56_2, hfz56_0, hfz56_1, hfz56_2⟩ := bz3_ BK290
       obtain ⟨Ao57, co57, eo57⟩ := Kd.R_slice HO_310002.out
       subst eo57
       go_wp2
       refine bodyPost_ret (results_ctt rfl _ _ gb290 36 #[.int .i64 t293, .slice Ao21 t294.length co21, .slice Ao57 x310002_1.length co57] (0, 0) _ rfl (by (with_reducible repeat (first | refine blk_drewN ?_ _ | refine blk_drew ?_ | refine blk_alloc ?_ _)); refine blk_put (cs := #[.int .i64 t293, .slice Ao21 t294.length co21, .slice none 0 0]) ?_ 2 _ rfl; (with_reducible repeat (first | refine blk_drewN ?_ _ | refine blk_drew ?_ | refine blk_alloc ?_ _)); refine blk_put (cs := #[.int .i64 t293, .slice none 0 0, .slice none 0 0]) ?_ 1 _ rfl; (with_reducible repeat (first | refine blk_drewN ?_ _ | refine blk_drew ?_ | refine blk_alloc ?_ _)); refine blk_put (cs := #[.int .i64 0, .slice none 0 0, .slice none 0 0]) ?_ 0 _ rfl; exact bk_ BK290) Try.underlying36 rfl (by kernel_rfl)) rfl ?_
       exact ⟨_, _, by first | rfl | (simp [errW_none, errW_some] <;> rfl) | (simp [*, errW_none, errW_some] <;> rfl), by (with_reducible repeat (first | apply Kd.R_alloc | apply Kd.R_drewN | apply Kd.R_drew)); exact Kd.R_mono (Kd.R_far (p := ⟨gb290, 2, none⟩) (Kd.R_far (p := ⟨gb290, 1, none⟩) (Kd.R_far (p := ⟨gb290, 0, none⟩) (Kd.R_types HO_310001.out BK290.out (by decide)) (fun _ hk => by first | exact hk.2 | grind) (.int .i64 t293)) (fun _ hk => by first | exact hk.2 | grind) (.slice Ao21 t294.length co21)) (fun _ hk => by first | exact hk.2 | grind) (.slice Ao57 x310002_1.length co57)) (fun _ hk => by first | exact trivial | grind), by (with_reducible repeat (first | apply Kd.R_alloc | apply Kd.R_drewN | apply Kd.R_drew)); exact Kd.R_mono (Kd.R_far (p := ⟨gb290, 2, none⟩) (Kd.R_far (p := ⟨gb290, 1, none⟩) (Kd.R_far (p := ⟨gb290, 0, none⟩) (Kd.R_types HO_310002.out BK290.out (by decide)) (fun _ hk => by first | exact hk.2 | grind) (.int .i64 t293)) (fun _ hk => by first | exact hk.2 | grind) (.slice Ao21 t294.length co21)) (fun _ hk => by first | exact hk.2 | grind) (.slice Ao57 x310002_1.length co57)) (fun _ hk => by first | exact trivial | grind), bf_ HB⟩
   ·rw [if_neg c9] at H
    exact absurd H (by simp)
  ·rw [if_neg c7] at H
   have c7b0 : (t298 == 0) = false := beq_eq_false_iff_ne.mpr c7
   have c7b1 : (t298 != 0) = true := bne_iff_ne.mpr c7
   simp only [Option.some.injEq, Prod.mk.injEq] at H
   obtain ⟨rfl, rfl, rfl, rfl, rfl⟩ := H
   go_enter Try.func61, Try.ntmps61
   try go_wp2_with (first | ((with_reducible refine gd_ 2 rfl ?_); refine bv_ 2 #[.int .i64 a0_0, .slice A0_1 l0_1.length c0_1, .slice A0_2 l0_2.length c0_2] 36 ?_; intro gb289 hg w58 hbox hb; have BK289 := Aside0.mk (hbox); have GW289 := gw_ HB hg; have GE289 := gw_ HB hg; replace HB := Aside0.mk (below_step (be_ HB) hb); clear hb hbox hg) | ((with_reducible refine gd_ 4 rfl ?_); refine bv_ 4 #[.int .i64 0, .slice none 0 0, .slice none 0 0] 36 ?_; intro gb290 hg w59 hbox hb; have BK290 := Aside0.mk (hbox); have GW290 := gw_ HB hg; have GE290 := gw_ HB hg; replace HB := Aside0.mk (below_step (bf_ HB) hb); have NB289_290 := nl_ BK289 hg; have NB290_289 := ng_ BK289 hg; replace BK289 := bb_ BK289 hb; clear hb hbox hg; have hnb60 := NB289_290.out; have hnc60 := NB290_289.out; obtain ⟨hcz61_0, hcz61_1, hcz61_2, hfz61_0, hfz61_1, hfz61_2⟩ := bz3_ BK289) | ((with_reducible refine gc_ 39 rfl ?_); refine gl_ 14 Try.func39 #[.agg #[.int .i64 a0_0, .slice A0_1 l0_1.length c0_1, .slice A0_2 l0_2.length c0_2]] ?_; (with_reducible refine (spec_StoreOk.calls k a0_0 _ _ l0_1 _ _ l0_2 true _ ?side1 ?side2 ?side3 ?side4 A3.out).mono ?_); (case side1 => repeat (first | exact (Kd.C_below HR0_1.out HB.out) | (with_reducible refine Kd.C_alloc ?_ _) | (with_reducible refine Kd.C_drewN ?_ _) | (with_reducible refine Kd.C_drew ?_))); (case side2 => exact HC0_1.out); (case side3 => repeat (first | exact (Kd.C_below HR0_2.out HB.out) | (with_reducible refine Kd.C_alloc ?_ _) | (with_reducible refine Kd.C_drewN ?_ _) | (with_reducible refine Kd.C_drew ?_))); (case side4 => exact HC0_2.out); rintro e w62 ⟨rfl, hb⟩; refine ⟨_, rfl, ?_⟩; replace BK289 := bb_ BK289 hb; replace BK290 := bb_ BK290 hb; replace HB := Aside0.mk (below_step (bf_ HB) hb); (try clear hb); (try clear hb2); (try clear hk); (try clear hi)))
   replace BK289 := Aside0.mk (blk_drew BK289.out); replace BK290 := Aside0.mk (blk_drew BK290.out); replace HB := Aside0.mk (below_drew1 HB.out)
   refine start_ (n := 14) (S := fun w' => cw_ w' gb289 0 (.int .i64 a0_0) ∧ cw_ w' gb289 1 (.slice A0_1 l0_1.length c0_1) ∧ cw_ w' gb289 2 (.slice A0_2 l0_2.length c0_2)) (ds := []) (bs 14 0) (by kernel_rfl) rfl rfl ⟨bt_ BK289 0, bt_ BK289 1, bt_ BK289 2⟩ (fun hHeld => ?_); refine with_tabW spec_StorePut.tab3 spec_StorePut.bits3 (fun HT_ HW_ => ?_)
   generalize w62.drew = w63 at BK289 BK290 HB hHeld ⊢
   refine ps_ 0 18 (bs 14 1) HT_ ?_
   refine ps_ 2 20 (bm 14 5) HT_ ?_
   refine ps_ 3 21 (bm 14 13) HT_ ?_
   refine tk_ 1 19 (bs 14 4) HT_ HW_ hHeld ?_
   refine join_ (σ := Value × Nat) 3 (bs 14 11) (fun s_ => [(22, .int .i64 t292), (23, .tuple #[.agg #[.int .i64 t293, s_.1], .int .i64 t297, .int .i64 t298]), (7, .pointer (some ⟨s_.2, 0, none⟩)), (17, .tuple #[.agg #[.int .i64 t293, s_.1], .int .i64 t297, .int .i64 t298]), (24, .agg #[.int .i64 t293, s_.1]), (25, .int .i64 t297), (26, .int .i64 t298)]) (fun s_ w' => (w'.cell? ⟨gb289, 0, none⟩ = some (.int .i64 a0_0) ∧ w'.cell? ⟨gb289, 1, none⟩ = some (.slice A0_1 l0_1.length c0_1) ∧ w'.cell? ⟨gb289, 2, none⟩ = some (.slice A0_2 l0_2.length c0_2)) ∧ (Kd.R (Kd.int .i64) 3 w' w.heap.size (fun _ => True) s_.1 t294) ∧ (w'.heap[gb289]? = some (.cells #[.int .i64 a0_0, .slice A0_1 l0_1.length c0_1, .slice A0_2 l0_2.length c0_2] 36 (0, 0))) ∧ (w'.heap[gb290]? = some (.cells #[.int .i64 0, .slice none 0 0, .slice none 0 0] 36 (0, 0))) ∧ (w'.heap[s_.2]? = some (.cells #[.int .i64 0, .slice none 0 0] 24 (0, 0))) ∧ (w.heap.size ≤ s_.2) ∧ (w.heap.size ≤ s_.2) ∧ (gb289 ≠ s_.2) ∧ (s_.2 ≠ gb289) ∧ (gb290 ≠ s_.2) ∧ (s_.2 ≠ gb290) ∧ (Below w.heap.size w w')) ?_ ?_
   rotate_left
   ·intro hCont
    refine two_ (i := 4) (j := 10) (Ni := some 22) (Nj := some 7) (bs 14 5) (bm 14 1039) rfl rfl rfl rfl (two_of HT_.out (by kernel_rfl)) (by decide) (by decide) (fun K hK => ?_) (fun K hK => ?_)
    ·skip
     refine gs_ Try.func79 #[.int .i64 (l1.length : Int)] ?_
     with_reducible refine (spec_l16Need.calls (l1.length : Int) t292 _ A5.out).mono ?_
     rintro e w64 ⟨rfl, hb⟩
     refine ⟨_, rfl, ?_⟩
     replace BK289 := bb_ BK289 hb; replace BK290 := bb_ BK290 hb; replace HB := Aside0.mk (below_step (bf_ HB) hb); (try clear hb); (try clear hb2); (try clear hk); (try clear hi)
     refine hK.out _ _ ⟨bt_ BK289 0, bt_ BK289 1, bt_ BK289 2⟩ (fun hHeld => ?_)
     clear hK K
     refine norm_ (a' := ?_) ?_ ?_
     rotate_left
     ·show Act.put _ (some 22) _ = _
      simp only [Act.put, ls0_, ls1_, ls2_, i64_w, i32_w]
      rfl
     refine two_ (i := 5) (j := 10) (Ni := some 23) (Nj := some 7) (bs 14 6) (bm 14 1055) rfl rfl rfl rfl (two_of HT_.out (by kernel_rfl)) (by decide) (by decide) (fun K hK => ?_) (fun K hK => ?_)
     ·skip
      refine gs_ Try.func44 #[.agg #[.int .i64 a0_0, .slice A0_1 l0_1.length c0_1], .int .i64 t292] ?_
      with_reducible refine (spec_SlabTake.calls k a0_0 _ _ l0_1 t292 t293 t294 t297 t298 _ ?side1 ?side2 A6.out).mono ?_
      (case side1 => repeat (first | exact (Kd.C_below HR0_1.out HB.out) | (with_reducible refine Kd.C_alloc ?_ _) | (with_reducible refine Kd.C_drewN ?_ _) | (with_reducible refine Kd.C_drew ?_)))
      (case side2 => exact HC0_1.out)
      rintro e w65 ⟨v295, rfl, ho0, hb⟩
      refine ⟨_, rfl, ?_⟩
      have HO296 := Aside0.mk (Kd.R_lower ho0 (below_size (bf_ HB))); replace BK289 := bb_ BK289 hb; replace BK290 := bb_ BK290 hb; replace HB := Aside0.mk (below_step (bf_ HB) hb); (try clear hb); (try clear hb2); (try clear hk); (try clear hi); (try clear ho0)
      refine hK.out _ _ ⟨bt_ BK289 0, bt_ BK289 1, bt_ BK289 2⟩ (fun hHeld => ?_)
      clear hK K
      refine norm_ (a' := ?_) ?_ ?_
      rotate_left
      ·show Act.put _ (some 23) _ = _
       simp only [Act.put, ls0_, ls1_, ls2_, i64_w, i32_w]
       rfl
      refine ps_ 6 17 (bs 14 7) HT_ ?_
      refine ps_ 7 24 (bs 14 8) HT_ ?_
      refine ps_ 8 25 (bs 14 9) HT_ ?_
      refine ps_ 9 26 (bs 14 10) HT_ ?_
      refine on_ 10 (some 7) (bs 14 11) HT_ (fun K hK => ?_)
      refine box_step ?hg (N := 7) ?hd (cs := #[.int .i64 0, .slice none 0 0]) (t := 24) ?hr ?_; (case hd => rfl); (case hg => rfl); (case hr => first | (go_simp; done) | (go_simp; rfl))
      intro gb299 hg w66 hbox hb
      replace HO296 := Aside0.mk (Kd.R_below (kr_ HO296) hb); have BK299 := Aside0.mk (hbox); have GW299 := gw_ HB hg; have GE299 := gw_ HB hg; replace HB := Aside0.mk (below_step (bf_ HB) hb); have NB289_299 := nl_ BK289 hg; have NB299_289 := ng_ BK289 hg; replace BK289 := bb_ BK289 hb; have NB290_299 := nl_ BK290 hg; have NB299_290 := ng_ BK290 hg; replace BK290 := bb_ BK290 hb; clear hb hbox hg
      refine hK.out _ _ ⟨bt_ BK289 0, bt_ BK289 1, bt_ BK289 2⟩ (fun hHeld => ?_)
      clear hK K
      refine norm_ (a' := ?_) ?_ ?_
      rotate_left
      ·show Act.put _ (some 7) _ = _
       simp only [Act.put, ls0_, ls1_, ls2_, i64_w, i32_w]
       rfl
      exact norm_ (by simp only [putAll, Act.put, ls0_, ls1_, ls2_]) (hCont (v295, gb299) _ ⟨hHeld, (kr_ HO296), (bk_ BK289), (bk_ BK290), (bk_ BK299), GW299.out, GE299.out, NB289_299.out, NB299_289.out, NB290_299.out, NB299_290.out, (bf_ HB)⟩)
     ·skip
      refine box_step ?hg (N := 7) ?hd (cs := #[.int .i64 0, .slice none 0 0]) (t := 24) ?hr ?_; (case hd => rfl); (case hg => rfl); (case hr => first | (go_simp; done) | (go_simp; rfl))
      intro gb299 hg w65 hbox hb
      have BK299 := Aside0.mk (hbox); have GW299 := gw_ HB hg; have GE299 := gw_ HB hg; replace HB := Aside0.mk (below_step (bf_ HB) hb); have NB289_299 := nl_ BK289 hg; have NB299_289 := ng_ BK289 hg; replace BK289 := bb_ BK289 hb; have NB290_299 := nl_ BK290 hg; have NB299_290 := ng_ BK290 hg; replace BK290 := bb_ BK290 hb; clear hb hbox hg
      refine hK.out _ _ ⟨bt_ BK289 0, bt_ BK289 1, bt_ BK289 2⟩ (fun hHeld => ?_)
      clear hK K
      refine norm_ (a' := ?_) ?_ ?_
      rotate_left
      ·show Act.put _ (some 7) _ = _
       simp only [Act.put, ls0_, ls1_, ls2_, i64_w, i32_w]
       rfl
      refine on_ 5 (some 23) (bm 14 1087) HT_ (fun K hK => ?_)
      refine gs_ Try.func44 #[.agg #[.int .i64 a0_0, .slice A0_1 l0_1.length c0_1], .int .i64 t292] ?_
      with_reducible refine (spec_SlabTake.calls k a0_0 _ _ l0_1 t292 t293 t294 t297 t298 _ ?side1 ?side2 A6.out).mono ?_
      (case side1 => repeat (first | exact (Kd.C_below HR0_1.out HB.out) | (with_reducible refine Kd.C_alloc ?_ _) | (with_reducible refine Kd.C_drewN ?_ _) | (with_reducible refine Kd.C_drew ?_)))
      (case side2 => exact HC0_1.out)
      rintro e w66 ⟨v295, rfl, ho0, hb⟩
      refine ⟨_, rfl, ?_⟩
      have HO296 := Aside0.mk (Kd.R_lower ho0 (below_size (bf_ HB))); replace BK289 := bb_ BK289 hb; replace BK290 := bb_ BK290 hb; replace BK299 := bb_ BK299 hb; replace HB := Aside0.mk (below_step (bf_ HB) hb); (try clear hb); (try clear hb2); (try clear hk); (try clear hi); (try clear ho0)
      refine hK.out _ _ ⟨bt_ BK289 0, bt_ BK289 1, bt_ BK289 2⟩ (fun hHeld => ?_)
      clear hK K
      refine norm_ (a' := ?_) ?_ ?_
      rotate_left
      ·show Act.put _ (some 23) _ = _
       simp only [Act.put, ls0_, ls1_, ls2_, i64_w, i32_w]
       rfl
      refine ps_ 6 17 (bm 14 1151) HT_ ?_
      refine ps_ 7 24 (bm 14 1279) HT_ ?_
      refine ps_ 8 25 (bm 14 1535) HT_ ?_
      refine ps_ 9 26 (bs 14 11) HT_ ?_
      exact norm_ (by simp only [putAll, Act.put, ls0_, ls1_, ls2_]) (hCont (v295, gb299) _ ⟨hHeld, (kr_ HO296), (bk_ BK289), (bk_ BK290), (bk_ BK299), GW299.out, GE299.out, NB289_299.out, NB299_289.out, NB290_299.out, NB299_290.out, (bf_ HB)⟩)
    ·skip
     refine box_step ?hg (N := 7) ?hd (cs := #[.int .i64 0, .slice none 0 0]) (t := 24) ?hr ?_; (case hd => rfl); (case hg => rfl); (case hr => first | (go_simp; done) | (go_simp; rfl))
     intro gb299 hg w64 hbox hb
     have BK299 := Aside0.mk (hbox); have GW299 := gw_ HB hg; have GE299 := gw_ HB hg; replace HB := Aside0.mk (below_step (bf_ HB) hb); have NB289_299 := nl_ BK289 hg; have NB299_289 := ng_ BK289 hg; replace BK289 := bb_ BK289 hb; have NB290_299 := nl_ BK290 hg; have NB299_290 := ng_ BK290 hg; replace BK290 := bb_ BK290 hb; clear hb hbox hg
     refine hK.out _ _ ⟨bt_ BK289 0, bt_ BK289 1, bt_ BK289 2⟩ (fun hHeld => ?_)
     clear hK K
     refine norm_ (a' := ?_) ?_ ?_
     rotate_left
     ·show Act.put _ (some 7) _ = _
      simp only [Act.put, ls0_, ls1_, ls2_, i64_w, i32_w]
      rfl
     refine on_ 4 (some 22) (bm 14 1055) HT_ (fun K hK => ?_)
     refine gs_ Try.func79 #[.int .i64 (l1.length : Int)] ?_
     with_reducible refine (spec_l16Need.calls (l1.length : Int) t292 _ A5.out).mono ?_
     rintro e w65 ⟨rfl, hb⟩
     refine ⟨_, rfl, ?_⟩
     replace BK289 := bb_ BK289 hb; replace BK290 := bb_ BK290 hb; replace BK299 := bb_ BK299 hb; replace HB := Aside0.mk (below_step (bf_ HB) hb); (try clear hb); (try clear hb2); (try clear hk); (try clear hi)
     refine hK.out _ _ ⟨bt_ BK289 0, bt_ BK289 1, bt_ BK289 2⟩ (fun hHeld => ?_)
     clear hK K
     refine norm_ (a' := ?_) ?_ ?_
     rotate_left
     ·show Act.put _ (some 22) _ = _
      simp only [Act.put, ls0_, ls1_, ls2_, i64_w, i32_w]
      rfl
     refine on_ 5 (some 23) (bm 14 1087) HT_ (fun K hK => ?_)
     refine gs_ Try.func44 #[.agg #[.int .i64 a0_0, .slice A0_1 l0_1.length c0_1], .int .i64 t292] ?_
     with_reducible refine (spec_SlabTake.calls k a0_0 _ _ l0_1 t292 t293 t294 t297 t298 _ ?side1 ?side2 A6.out).mono ?_
     (case side1 => repeat (first | exact (Kd.C_below HR0_1.out HB.out) | (with_reducible refine Kd.C_alloc ?_ _) | (with_reducible refine Kd.C_drewN ?_ _) | (with_reducible refine Kd.C_drew ?_)))
     (case side2 => exact HC0_1.out)
     rintro e w66 ⟨v295, rfl, ho0, hb⟩
     refine ⟨_, rfl, ?_⟩
     have HO296 := Aside0.mk (Kd.R_lower ho0 (below_size (bf_ HB))); replace BK289 := bb_ BK289 hb; replace BK290 := bb_ BK290 hb; replace BK299 := bb_ BK299 hb; replace HB := Aside0.mk (below_step (bf_ HB) hb); (try clear hb); (try clear hb2); (try clear hk); (try clear hi); (try clear ho0)
     refine hK.out _ _ ⟨bt_ BK289 0, bt_ BK289 1, bt_ BK289 2⟩ (fun hHeld => ?_)
     clear hK K
     refine norm_ (a' := ?_) ?_ ?_
     rotate_left
     ·show Act.put _ (some 23) _ = _
      simp only [Act.put, ls0_, ls1_, ls2_, i64_w, i32_w]
      rfl
     refine ps_ 6 17 (bm 14 1151) HT_ ?_
     refine ps_ 7 24 (bm 14 1279) HT_ ?_
     refine ps_ 8 25 (bm 14 1535) HT_ ?_
     refine ps_ 9 26 (bs 14 11) HT_ ?_
     exact norm_ (by simp only [putAll, Act.put, ls0_, ls1_, ls2_]) (hCont (v295, gb299) _ ⟨hHeld, (kr_ HO296), (bk_ BK289), (bk_ BK290), (bk_ BK299), GW299.out, GE299.out, NB289_299.out, NB299_289.out, NB290_299.out, NB299_290.out, (bf_ HB)⟩)
   rintro ⟨v295, gb299⟩ w67 ⟨hS_, h0_, h1_, h2_, h3_, h4_, h5_, h6_, h7_, h8_, h9_, h10_⟩
   have n0_ : Aside0 (Kd.R (Kd.int .i64) 3 w67 w.heap.size (fun _ => True) v295 t294) := ⟨h0_⟩
   have n1_ : Aside0 (w67.heap[gb289]? = some (.cells #[.int .i64 a0_0, .slice A0_1 l0_1.length c0_1, .slice A0_2 l0_2.length c0_2] 36 (0, 0))) := ⟨h1_⟩
   have n2_ : Aside0 (w67.heap[gb290]? = some (.cells #[.int .i64 0, .slice none 0 0, .slice none 0 0] 36 (0, 0))) := ⟨h2_⟩
   have n3_ : Aside0 (w67.heap[gb299]? = some (.cells #[.int .i64 0, .slice none 0 0] 24 (0, 0))) := ⟨h3_⟩
   have n4_ : Aside0 (w.heap.size ≤ gb299) := ⟨h4_⟩
   have n5_ : Aside0 (w.heap.size ≤ gb299) := ⟨h5_⟩
   have n6_ : Aside0 (gb289 ≠ gb299) := ⟨h6_⟩
   have n7_ : Aside0 (gb299 ≠ gb289) := ⟨h7_⟩
   have n8_ : Aside0 (gb290 ≠ gb299) := ⟨h8_⟩
   have n9_ : Aside0 (gb299 ≠ gb290) := ⟨h9_⟩
   have n10_ : Aside0 (Below w.heap.size w w67) := ⟨h10_⟩
   clear BK289 BK290 HB h0_ h1_ h2_ h3_ h4_ h5_ h6_ h7_ h8_ h9_ h10_; have HO296 := n0_; have BK289 := n1_; have BK290 := n2_; have BK299 := n3_; have GW299 := n4_; have GE299 := n5_; have NB289_299 := n6_; have NB299_289 := n7_; have NB290_299 := n8_; have NB299_290 := n9_; have HB := n10_; clear n0_ n1_ n2_ n3_ n4_ n5_ n6_ n7_ n8_ n9_ n10_
   have hHeld : w67.cell? ⟨gb289, 0, none⟩ = some (.int .i64 a0_0) ∧ w67.cell? ⟨gb289, 1, none⟩ = some (.slice A0_1 l0_1.length c0_1) ∧ w67.cell? ⟨gb289, 2, none⟩ = some (.slice A0_2 l0_2.length c0_2) := hS_
   obtain ⟨Ao69, co69, eo69⟩ := Kd.R_slice HO296.out
   (first | subst eo69 | (injection eo69 with f1_ f2_ f3_; have f4_ := f1_.symm; have f5_ := f3_.symm; clear f1_ f2_ f3_; subst f4_; subst f5_))
   refine norm_ (a' := ?_) ?_ ?_
   rotate_left
   ·simp only [putAll, Act.put, ls0_, ls1_, ls2_]
    rfl
   refine on_ 11 none (bs 14 12) HT_ (fun K hK => ?_)
   have hs68 := bc_ BK299 0 (.int .i64 0) rfl; have hfs68 := blk_frozen BK299.out 0; have hns68_0 := NB289_299.out; have hns68_1 := NB290_299.out; have hms68_0 := NB299_289.out; have hms68_1 := NB299_290.out; have hs70 := bc_ BK299 1 (.slice none 0 0) rfl; have hfs70 := blk_frozen BK299.out 1; have hns70_0 := NB289_299.out; have hns70_1 := NB290_299.out; have hms70_0 := NB299_289.out; have hms70_1 := NB299_290.out
   refine skip_ (w1 := ?_) (by rfl) rfl ?_ ?_
   rotate_left
   ·go_simp
    rfl
   refine hK.out _ _ ⟨(cf2_ NB289_299.out hHeld.1), (cf2_ NB289_299.out hHeld.2.1), (cf2_ NB289_299.out hHeld.2.2)⟩ (fun hHeld => ?_)
   clear hK K
   refine ps_ 12 8 (bs 14 13) HT_ ?_
   refine ps_ 13 9 (bs 14 14) HT_ ?_
   refine done_ (done_of HT_.out (by kernel_rfl)) ?_
   have hnb71 := NB290_299.out; have hnc71 := NB299_290.out; obtain ⟨hcz72_0, hcz72_1, hcz72_2, hfz72_0, hfz72_1, hfz72_2⟩ := bz3_ BK290
   try go_wp2
   refine bodyPost_ret (results_ctt rfl _ _ gb290 36 #[.int .i64 0, .slice none 0 0, .slice none 0 0] (0, 0) _ rfl (by (with_reducible repeat (first | refine blk_drewN ?_ _ | refine blk_drew ?_ | refine blk_alloc ?_ _)); refine blk_put (cs := #[.int .i64 0, .slice none 0 0, .slice none 0 0]) ?_ 2 _ rfl; (with_reducible repeat (first | refine blk_drewN ?_ _ | refine blk_drew ?_ | refine blk_alloc ?_ _)); refine blk_put (cs := #[.int .i64 0, .slice none 0 0, .slice none 0 0]) ?_ 1 _ rfl; (with_reducible repeat (first | refine blk_drewN ?_ _ | refine blk_drew ?_ | refine blk_alloc ?_ _)); refine blk_put (cs := #[.int .i64 0, .slice none 0 0, .slice none 0 0]) ?_ 0 _ rfl; (with_reducible repeat (first | refine blk_drewN ?_ _ | refine blk_drew ?_ | refine blk_alloc ?_ _)); refine blk_far ?_ NB290_299.out _; (with_reducible repeat (first | refine blk_drewN ?_ _ | refine blk_drew ?_ | refine blk_alloc ?_ _)); refine blk_far ?_ NB290_299.out _; exact bk_ BK290) Try.underlying36 rfl (by kernel_rfl)) rfl ?_
   exact ⟨_, _, by first | rfl | (simp [errW_none, errW_some] <;> rfl) | (simp [*, errW_none, errW_some] <;> rfl), by first | exact Kd.R_nil _ _ _ _ _ | exact Kd.N_nil _ _ _ _ _ | exact Kd.V_nil _ _ _ _ _ | exact Kd.Q_nil _ _ _ _ _ | exact Kd.S_nil _ _ _ _ _, by first | exact Kd.R_nil _ _ _ _ _ | exact Kd.N_nil _ _ _ _ _ | exact Kd.V_nil _ _ _ _ _ | exact Kd.Q_nil _ _ _ _ _ | exact Kd.S_nil _ _ _ _ _, bf_ HB⟩
 ·replace c4 := Bool.eq_false_iff.mpr c4
  subst c4
  have H1 : (some (0, ([] : List Int), ([] : List Int), (-1), 1)) = some (r1, r2, r3, r4, r5) := by rw [if_neg (show ¬ (false = true) by decide)] at H; exact H
  clear H
  have H := H1
  clear H1
  simp only [Option.some.injEq, Prod.mk.injEq] at H
  obtain ⟨rfl, rfl, rfl, rfl, rfl⟩ := H
  go_enter Try.func61, Try.ntmps61
  go_wp2_with (first | ((with_reducible refine gd_ 2 rfl ?_); refine bv_ 2 #[.int .i64 a0_0, .slice A0_1 l0_1.length c0_1, .slice A0_2 l0_2.length c0_2] 36 ?_; intro gb289 hg w73 hbox hb; have BK289 := Aside0.mk (hbox); have GW289 := gw_ HB hg; have GE289 := gw_ HB hg; replace HB := Aside0.mk (below_step (be_ HB) hb); clear hb hbox hg) | ((with_reducible refine gd_ 4 rfl ?_); refine bv_ 4 #[.int .i64 0, .slice none 0 0, .slice none 0 0] 36 ?_; intro gb290 hg w74 hbox hb; have BK290 := Aside0.mk (hbox); have GW290 := gw_ HB hg; have GE290 := gw_ HB hg; replace HB := Aside0.mk (below_step (bf_ HB) hb); have NB289_290 := nl_ BK289 hg; have NB290_289 := ng_ BK289 hg; replace BK289 := bb_ BK289 hb; clear hb hbox hg; have hnb75 := NB289_290.out; have hnc75 := NB290_289.out; obtain ⟨hcz76_0, hcz76_1, hcz76_2, hfz76_0, hfz76_1, hfz76_2⟩ := bz3_ BK289) | ((with_reducible refine gc_ 39 rfl ?_); refine gl_ 14 Try.func39 #[.agg #[.int .i64 a0_0, .slice A0_1 l0_1.length c0_1, .slice A0_2 l0_2.length c0_2]] ?_; (with_reducible refine (spec_StoreOk.calls k a0_0 _ _ l0_1 _ _ l0_2 false _ ?side1 ?side2 ?side3 ?side4 A3.out).mono ?_); (case side1 => repeat (first | exact (Kd.C_below HR0_1.out HB.out) | (with_reducible refine Kd.C_alloc ?_ _) | (with_reducible refine Kd.C_drewN ?_ _) | (with_reducible refine Kd.C_drew ?_))); (case side2 => exact HC0_1.out); (case side3 => repeat (first | exact (Kd.C_below HR0_2.out HB.out) | (with_reducible refine Kd.C_alloc ?_ _) | (with_reducible refine Kd.C_drewN ?_ _) | (with_reducible refine Kd.C_drew ?_))); (case side4 => exact HC0_2.out); rintro e w77 ⟨rfl, hb⟩; refine ⟨_, rfl, ?_⟩; replace BK289 := bb_ BK289 hb; replace BK290 := bb_ BK290 hb; replace HB := Aside0.mk (below_step (bf_ HB) hb); (try clear hb); (try clear hb2); (try clear hk); (try clear hi); obtain ⟨hcz78_0, hcz78_1, hcz78_2, hfz78_0, hfz78_1, hfz78_2⟩ := bz3_ BK290))
  refine bodyPost_ret (results_ctt rfl _ _ gb290 36 #[.int .i64 0, .slice none 0 0, .slice none 0 0] (0, 0) _ rfl (by (with_reducible repeat (first | refine blk_drewN ?_ _ | refine blk_drew ?_ | refine blk_alloc ?_ _)); refine blk_put (cs := #[.int .i64 0, .slice none 0 0, .slice none 0 0]) ?_ 2 _ rfl; (with_reducible repeat (first | refine blk_drewN ?_ _ | refine blk_drew ?_ | refine blk_alloc ?_ _)); refine blk_put (cs := #[.int .i64 0, .slice none 0 0, .slice none 0 0]) ?_ 1 _ rfl; (with_reducible repeat (first | refine blk_drewN ?_ _ | refine blk_drew ?_ | refine blk_alloc ?_ _)); refine blk_put (cs := #[.int .i64 0, .slice none 0 0, .slice none 0 0]) ?_ 0 _ rfl; exact bk_ BK290) Try.underlying36 rfl (by kernel_rfl)) rfl ?_
  exact ⟨_, _, by first | rfl | (simp [errW_none, errW_some] <;> rfl) | (simp [*, errW_none, errW_some] <;> rfl), by first | exact Kd.R_nil _ _ _ _ _ | exact Kd.N_nil _ _ _ _ _ | exact Kd.V_nil _ _ _ _ _ | exact Kd.Q_nil _ _ _ _ _ | exact Kd.S_nil _ _ _ _ _, by first | exact Kd.R_nil _ _ _ _ _ | exact Kd.N_nil _ _ _ _ _ | exact Kd.V_nil _ _ _ _ _ | exact Kd.Q_nil _ _ _ _ _ | exact Kd.S_nil _ _ _ _ _, bf_ HB⟩

end Go.Proofs.Ytaglpjlapfocfaa.PFnExactStorePut
