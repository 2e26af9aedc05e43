-- printed by a program of this session (wip/printx) out of the translation; Lean checks it
import Derived.Test.YtljhaoiopokmfaaVFnExactFairServe
import Derived.Test.YtljhaoiopokmfaaPFnExactFairServex0
import Derived.Test.YtljhaoiopokmfaaPFnExactFairServex7
import Derived.Test.YtljhaoiopokmfaaPFnExactFairServex9
import Derived.Test.YtljhaoiopokmfaaPFnExactFairServex10
import Derived.Test.YtljhaoiopokmfaaPFnExactFairServex11
namespace Go.Proofs.Ytljhaoiopokmfaa.PFnExactFairServe
open Go.RowKit Go.Proofs.YtljhaoiopokmfaaW.PrintWords Go.Proofs.YtljhaoiopokmfaaW.PrintLast Go.Proofs.YtljhaoiopokmfaaW.PrintMore
attribute [local go_sem] max2_int min2_int max_two min_two max_three min_three max_four min_four   -- for this text's walks alone
set_option linter.unusedVariables false
set_option linter.unusedSimpArgs false

/-! ### spec_FairServe: function 43 -/
def spec_FairServe.j0 : Nat → Bool → Bool → Int → Int → Int → Int → List (S38) → Int → Int → Int → Option (Int × Int × Int × Int × (List (S38)) × Int)
  | 0, _, _, _, _, _, _, _, _, _, _ => none
  | k + 1, x2, x19, x364000, x364001, x364002, x364003, x364004, x365000, x365001, x365002 => if x19 = true then (some (0, 0, 0, 0, ([] : List (S38)), 1)) else ((spec_FairPick.f k x364000 x364001 x364002 x364003 x364004).bind fun t368 => ((spec_l18At.f k x364000 x364001 x364002 x364003 x364004 t368).bind fun t369 => (if t369 < 0 then (some (0, 0, 0, 0, ([] : List (S38)), 4)) else ((spec_l18Copy.f x364000 x364001 x364002 x364003 x364004).bind fun bt370 => (if 0 ≤ t369 then (if t369 < (x364004.length : Int) then ((spec_VecMost.f x364001 x364002 x364003 ((rd_T38 x364004 t369).f3.f0) ((rd_T38 x364004 t369).f3.f1) ((rd_T38 x364004 t369).f3.f2)).bind fun bt379 => ((spec_VecTop.f bt379.1 bt379.2.1 bt379.2.2).bind fun t382 => (if t382 > 100000000000 then (some (0, 0, 0, 0, ([] : List (S38)), 7)) else ((spec_Finish.f k ((rd_T38 x364004 t369).f3.f0) ((rd_T38 x364004 t369).f3.f1) ((rd_T38 x364004 t369).f3.f2) x365000 x365001 x365002 ((rd_T38 x364004 t369).f1)).bind fun bt385 => ((spec_Dovetail.f k bt385.1 bt385.2.1 bt385.2.2.1 x364000).bind fun bt390 => (if t369 < (bt370.2.2.2.2.length : Int) then ((some (bt370.2.2.2.2.set (t369 : Int).toNat (⟨(rd_T38 bt370.2.2.2.2 t369).f0, (rd_T38 bt370.2.2.2.2 t369).f1, (rd_T38 bt370.2.2.2.2 t369).f2, (⟨bt390.1, bt390.2.1, bt390.2.2⟩ : S29)⟩ : S38) : List (S38))).bind fun y393 => (some (bt370.1, bt379.1, bt379.2.1, bt379.2.2, (y393.set (t369 : Int).toNat (⟨(rd_T38 y393 t369).f0, (rd_T38 y393 t369).f1, x2, (⟨(rd_T38 y393 t369).f3.f0, (rd_T38 y393 t369).f3.f1, (rd_T38 y393 t369).f3.f2⟩ : S29)⟩ : S38)), 0))) else (none))))))) else (none)) else (none))))))
def spec_FairServe.f (k : Nat) (a0_0 : Int) (a0_1 : Int) (a0_2 : Int) (a0_3 : Int) (l0_4 : List (S38)) (a1_0 : Int) (a1_1 : Int) (a1_2 : Int) (a2 : Bool) : Option (Int × Int × Int × Int × (List (S38)) × Int) := (spec_FairOk.f k a0_0 a0_1 a0_2 a0_3 l0_4).bind fun t366 => (if t366 = true then ((spec_ChargeOk.f a1_0 a1_1 a1_2).bind fun t367 => (spec_FairServe.j0 k a2 (!t367) a0_0 a0_1 a0_2 a0_3 l0_4 a1_0 a1_1 a1_2)) else (spec_FairServe.j0 k a2 true a0_0 a0_1 a0_2 a0_3 l0_4 a1_0 a1_1 a1_2))
theorem spec_FairServe.mono_l : ∀ k, (∀ y0 y1 y2 y3 y4 y5 y6 y7 y8 y9, LeO (spec_FairServe.j0 k y0 y1 y2 y3 y4 y5 y6 y7 y8 y9) (spec_FairServe.j0 (k + 1) y0 y1 y2 y3 y4 y5 y6 y7 y8 y9))
 | 0 => fun _ _ _ _ _ _ _ _ _ _ r h => by simp [spec_FairServe.j0] at h
 | k + 1 => by
  have ih0 := spec_FairServe.mono_l k
  ·intro y0 y1 y2 y3 y4 y5 y6 y7 y8 y9
   unfold spec_FairServe.j0
   repeat' first
   | (with_reducible exact ih0 _ _ _ _ _ _ _ _ _ _)
   | (with_reducible exact spec_Dovetail.mono _ _ _ _ _)
   | (with_reducible exact spec_FairOk.mono _ _ _ _ _ _)
   | (with_reducible exact spec_FairPick.mono _ _ _ _ _ _)
   | (with_reducible exact spec_Finish.mono _ _ _ _ _ _ _ _)
   | (with_reducible exact spec_l18At.mono _ _ _ _ _ _ _)
   | (with_reducible exact LeO.refl _)
   | (with_reducible exact LeO.none _)
   | (with_reducible refine LeO.ite ?_ ?_)
   | (with_reducible refine LeO.bind ?_ (fun _ => ?_))
   | exact ih0 _ _ _ _ _ _ _ _ _ _
   | exact spec_Dovetail.mono _ _ _ _ _
   | exact spec_FairOk.mono _ _ _ _ _ _
   | exact spec_FairPick.mono _ _ _ _ _ _
   | exact spec_Finish.mono _ _ _ _ _ _ _ _
   | exact spec_l18At.mono _ _ _ _ _ _ _
   | exact LeO.none _
   | refine LeO.ite ?_ ?_
   | refine LeO.bind ?_ (fun _ => ?_)
theorem spec_FairServe.mono : ∀ a0 a1 a2 a3 a4 a5 a6 a7 a8 k, LeO (spec_FairServe.f k a0 a1 a2 a3 a4 a5 a6 a7 a8) (spec_FairServe.f (k + 1) a0 a1 a2 a3 a4 a5 a6 a7 a8) := by
 intro a0 a1 a2 a3 a4 a5 a6 a7 a8 k
 have ih0 := spec_FairServe.mono_l k
 unfold spec_FairServe.f
 repeat' first
   | (with_reducible exact ih0 _ _ _ _ _ _ _ _ _ _)
   | (with_reducible exact spec_Dovetail.mono _ _ _ _ _)
   | (with_reducible exact spec_FairOk.mono _ _ _ _ _ _)
   | (with_reducible exact spec_FairPick.mono _ _ _ _ _ _)
   | (with_reducible exact spec_Finish.mono _ _ _ _ _ _ _ _)
   | (with_reducible exact spec_l18At.mono _ _ _ _ _ _ _)
   | (with_reducible exact LeO.refl _)
   | (with_reducible exact LeO.none _)
   | (with_reducible refine LeO.ite ?_ ?_)
   | (with_reducible refine LeO.bind ?_ (fun _ => ?_))
   | exact ih0 _ _ _ _ _ _ _ _ _ _
   | exact spec_Dovetail.mono _ _ _ _ _
   | exact spec_FairOk.mono _ _ _ _ _ _
   | exact spec_FairPick.mono _ _ _ _ _ _
   | exact spec_Finish.mono _ _ _ _ _ _ _ _
   | exact spec_l18At.mono _ _ _ _ _ _ _
   | exact LeO.none _
   | refine LeO.ite ?_ ?_
   | refine LeO.bind ?_ (fun _ => ?_)
def spec_FairServe.T7 : Bool × List (List Nat × List Nat) := (true, [([], []), ([0], [0]), ([], []), ([2], [2]), ([], []), ([3, 4], [3, 4]), ([5], [5]), ([6], [6]), ([1, 7], [1, 7]), ([0, 1, 2, 3, 4, 5, 6, 7, 8], []), ([9, 8, 8, 0, 1, 2, 3, 4, 5, 6, 7, 8], [8, 9])])
def spec_FairServe.B7 : List Nat := [0, 1, 0, 4, 0, 28, 60, 124, 255, 511, 1023]
theorem spec_FairServe.tab7 : rtab .any (opsOf Try.f43 7) = spec_FairServe.T7 := by kernel_rfl
theorem spec_FairServe.bits7 : waitsOk spec_FairServe.T7.2 spec_FairServe.B7 = true := by kernel_rfl
def spec_FairServe.T10 : Bool × List (List Nat × List Nat) := (true, [([], []), ([0], [0]), ([], []), ([1, 2], [1, 2]), ([3], [3]), ([4], [4]), ([], []), ([], []), ([7], [7]), ([], []), ([8, 9], [8, 9]), ([10], [10]), ([11], [11]), ([5, 6, 12], [5, 6, 12]), ([13], [13]), ([14], [14]), ([14], [14]), ([], []), ([17, 15, 13, 0, 1, 2, 3, 4, 5, 6, 7, 8, 9, 10, 11, 12, 13, 14, 15, 17], [15, 17]), ([16, 18, 0, 1, 2, 3, 4, 5, 6, 7, 8, 9, 10, 11, 12, 13, 14, 15, 16, 17, 18], [16])])
def spec_FairServe.B10 : List Nat := [0, 1, 0, 7, 15, 31, 0, 0, 128, 0, 896, 1920, 3968, 8191, 16383, 32767, 32767, 0, 196607, 524287]
theorem spec_FairServe.tab10 : rtab .any (opsOf Try.f43 10) = spec_FairServe.T10 := by kernel_rfl
theorem spec_FairServe.bits10 : waitsOk spec_FairServe.T10.2 spec_FairServe.B10 = true := by kernel_rfl
def spec_FairServe.T11 : Bool × List (List Nat × List Nat) := (true, [([], []), ([0], [0]), ([], []), ([], []), ([], []), ([4], [4]), ([3, 5], [3, 5]), ([1, 2, 0, 1, 2, 3, 4, 5, 6], [1, 2]), ([7, 0, 1, 2, 3, 4, 5, 6], [7]), ([8, 6, 6, 0, 1, 2, 3, 4, 5, 6], [6, 8])])
def spec_FairServe.B11 : List Nat := [0, 1, 0, 0, 0, 16, 56, 127, 255, 511]
theorem spec_FairServe.tab11 : rtab .any (opsOf Try.f43 11) = spec_FairServe.T11 := by kernel_rfl
theorem spec_FairServe.bits11 : waitsOk spec_FairServe.T11.2 spec_FairServe.B11 = true := by kernel_rfl
set_option maxHeartbeats 8000000 in
set_option maxRecDepth 100000 in
theorem spec_FairServe.calls (k : Nat) (a0_0 : Int) (a0_1 : Int) (a0_2 : Int) (a0_3 : Int) (A0_4 : Option Addr) (c0_4 : Nat) (l0_4 : List (S38)) (a1_0 : Int) (a1_1 : Int) (a1_2 : Int) (a2 : Bool) (r1 : Int) (r2 : Int) (r3 : Int) (r4 : Int) (r5 : List (S38)) (r6 : Int) (w : World) (hr0_4 : Kd.C k38 w A0_4 l0_4.length l0_4) (hc0_4 : l0_4.length ≤ c0_4) (h : spec_FairServe.f k a0_0 a0_1 a0_2 a0_3 l0_4 a1_0 a1_1 a1_2 a2 = some (r1, r2, r3, r4, r5, r6)) :
  Calls Try.prog 43 #[.agg #[.int .i64 a0_0, .int .i64 a0_1, .int .i64 a0_2, .int .i64 a0_3, .slice A0_4 l0_4.length c0_4], .agg #[.int .i64 a1_0, .int .i64 a1_1, .int .i64 a1_2], .bool a2] w fun e w' => ∃ v4_ : Value, e = .returned (.tuple #[.agg #[.int .i64 r1, .int .i64 r2, .int .i64 r3, .int .i64 r4, v4_], .int .i64 r6]) ∧ Kd.R k38 38 w' w.heap.size (fun _ => True) v4_ r5 ∧ Below w.heap.size w w' := by
 have hu32 := Try.underlying32; have hu29 := Try.underlying29
 have HR0_4 := Aside0.mk hr0_4
 have HC0_4 := Aside0.mk hc0_4
 clear hr0_4 hc0_4; have HB := Aside0.mk (Below.refl w.heap.size w)
 have H : ((spec_FairOk.f k a0_0 a0_1 a0_2 a0_3 l0_4).bind fun t366 => (if t366 = true then ((spec_ChargeOk.f a1_0 a1_1 a1_2).bind fun t367 => (spec_FairServe.j0 k a2 (!t367) a0_0 a0_1 a0_2 a0_3 l0_4 a1_0 a1_1 a1_2)) else (spec_FairServe.j0 k a2 true a0_0 a0_1 a0_2 a0_3 l0_4 a1_0 a1_1 a1_2))) = some (r1, r2, r3, r4, r5, r6) := h
 clear h
 have HC4 := Aside0.mk H
 clear H
 go_enter Try.func43, Try.ntmps43
 go_upto_region 1 with (first | ((with_reducible refine gd_ 3 rfl ?_); refine bv_ 3 #[.int .i64 a0_0, .int .i64 a0_1, .int .i64 a0_2, .int .i64 a0_3, .slice A0_4 l0_4.length c0_4] 32 ?_; intro gb363 hg w5 hbox hb; have BK363 := Aside0.mk (hbox); have GW363 := gw_ HB hg; have GE363 := gw_ HB hg; replace HB := Aside0.mk (below_step (be_ HB) hb); clear hb hbox hg) | ((with_reducible refine gd_ 4 rfl ?_); refine bv_ 4 #[.int .i64 a1_0, .int .i64 a1_1, .int .i64 a1_2] 29 ?_; intro gb364 hg w6 hbox hb; have BK364 := Aside0.mk (hbox); have GW364 := gw_ HB hg; have GE364 := gw_ HB hg; replace HB := Aside0.mk (below_step (bf_ HB) hb); have NB363_364 := nl_ BK363 hg; have NB364_363 := ng_ BK363 hg; replace BK363 := bb_ BK363 hb; clear hb hbox hg) | ((with_reducible refine gd_ 6 rfl ?_); refine bv_ 6 #[.int .i64 0, .int .i64 0, .int .i64 0, .int .i64 0, .slice none 0 0] 32 ?_; intro gb365 hg w7 hbox hb; have BK365 := Aside0.mk (hbox); have GW365 := gw_ HB hg; have GE365 := gw_ HB hg; replace HB := Aside0.mk (below_step (bf_ HB) hb); have NB363_365 := nl_ BK363 hg; have NB365_363 := ng_ BK363 hg; replace BK363 := bb_ BK363 hb; have NB364_365 := nl_ BK364 hg; have NB365_364 := ng_ BK364 hg; replace BK364 := bb_ BK364 hb; clear hb hbox hg))
 (try simp only [Act.put, ls0_, ls1_, ls2_])
 go_cut [19] (fun v19 wc => ∃ (kq : Nat) (x19_3 : Bool), v19 = .bool x19_3 ∧ Aside0 (spec_FairServe.j0 kq a2 x19_3 a0_0 a0_1 a0_2 a0_3 l0_4 a1_0 a1_1 a1_2 = some (r1, r2, r3, r4, r5, r6)) ∧ Aside0 (kq ≤ k) ∧ Aside0 (wc.heap[gb363]? = some (.cells #[.int .i64 a0_0, .int .i64 a0_1, .int .i64 a0_2, .int .i64 a0_3, (.slice A0_4 l0_4.length c0_4)] 32 (0, 0))) ∧ Aside0 (wc.heap[gb364]? = some (.cells #[.int .i64 a1_0, .int .i64 a1_1, .int .i64 a1_2] 29 (0, 0))) ∧ Aside0 (wc.heap[gb365]? = some (.cells #[.int .i64 0, .int .i64 0, .int .i64 0, .int .i64 0, (.slice none 0 0)] 32 (0, 0))) ∧ Aside0 (Below w.heap.size w wc))
 case first =>
  have H := HC4.out
  clear HC4
  replace H := Option.bind_eq_some_iff.mp H
  obtain ⟨t366, A80, H⟩ := H
  replace H : (if t366 = true then ((spec_ChargeOk.f a1_0 a1_1 a1_2).bind fun t367 => (spec_FairServe.j0 k a2 (!t367) a0_0 a0_1 a0_2 a0_3 l0_4 a1_0 a1_1 a1_2)) else (spec_FairServe.j0 k a2 true a0_0 a0_1 a0_2 a0_3 l0_4 a1_0 a1_1 a1_2)) = some (r1, r2, r3, r4, r5, r6) := H
  have A8 := Aside0.mk A80
  clear A80
  by_cases c9 : t366 = true
  ·subst c9
   have H1 : ((spec_ChargeOk.f a1_0 a1_1 a1_2).bind fun t367 => (spec_FairServe.j0 k a2 (!t367) a0_0 a0_1 a0_2 a0_3 l0_4 a1_0 a1_1 a1_2)) = some (r1, r2, r3, r4, r5, r6) := by rw [if_pos rfl] at H; exact H
   clear H
   have H := H1
   clear H1
   replace H := Option.bind_eq_some_iff.mp H
   obtain ⟨t367, A100, H⟩ := H
   replace H : (spec_FairServe.j0 k a2 (!t367) a0_0 a0_1 a0_2 a0_3 l0_4 a1_0 a1_1 a1_2) = some (r1, r2, r3, r4, r5, r6) := H
   have A10 := Aside0.mk A100
   clear A100
   have H' := Aside0.mk H
   clear H; have hnb11 := NB363_364.out; have hnc11 := NB364_363.out; have hnb12 := NB363_365.out; have hnc12 := NB365_363.out; obtain ⟨hcz13_0, hcz13_1, hcz13_2, hcz13_3, hcz13_4, hfz13_0, hfz13_1, hfz13_2, hfz13_3, hfz13_4⟩ := bz5_ BK363
   go_wp2_with (first | ((with_reducible refine gc_ 16 rfl ?_); refine gl_ 13 Try.func16 #[.agg #[.int .i64 a0_0, .int .i64 a0_1, .int .i64 a0_2, .int .i64 a0_3, .slice A0_4 l0_4.length c0_4]] ?_; (with_reducible refine (spec_FairOk.calls k a0_0 a0_1 a0_2 a0_3 _ _ l0_4 true _ ?side1 ?side2 A8.out).mono ?_); (case side1 => repeat (first | exact (Kd.C_below HR0_4.out HB.out) | (with_reducible refine Kd.C_alloc ?_ _) | (with_reducible refine Kd.C_drewN ?_ _) | (with_reducible refine Kd.C_drew ?_))); (case side2 => exact HC0_4.out); rintro e w14 ⟨rfl, hb⟩; refine ⟨_, rfl, ?_⟩; replace BK363 := bb_ BK363 hb; replace BK364 := bb_ BK364 hb; replace BK365 := bb_ BK365 hb; replace HB := Aside0.mk (below_step (bf_ HB) hb); (try clear hb); (try clear hb2); (try clear hk); (try clear hi); have hnb15 := NB364_365.out; have hnc15 := NB365_364.out; obtain ⟨hcz16_0, hcz16_1, hcz16_2, hfz16_0, hfz16_1, hfz16_2⟩ := bz3_ BK364) | (go_at_call 77; (with_reducible refine (spec_ChargeOk.calls a1_0 a1_1 a1_2 t367 _ A10.out).mono ?_); rintro e w17 ⟨rfl, hb⟩; replace BK363 := bb_ BK363 hb; replace BK364 := bb_ BK364 hb; replace BK365 := bb_ BK365 hb; replace HB := Aside0.mk (below_step (bf_ HB) hb); (try clear hb); (try clear hb2); (try clear hk); (try clear hi)))
   go_meet
   case rel => exact ⟨_, (!t367), (by first | rfl | (simp; done) | (simp [*]; done)), H', ⟨by first | omega | exact Nat.le_refl _⟩, ⟨bk_ BK363⟩, ⟨bk_ BK364⟩, ⟨bk_ BK365⟩, ⟨bf_ HB⟩⟩
  ·replace c9 := Bool.eq_false_iff.mpr c9
   subst c9
   have H1 : (spec_FairServe.j0 k a2 true a0_0 a0_1 a0_2 a0_3 l0_4 a1_0 a1_1 a1_2) = some (r1, r2, r3, r4, r5, r6) := by rw [if_neg (show ¬ (false = true) by decide)] at H; exact H
   clear H
   have H := H1
   clear H1
   have H' := Aside0.mk H
   clear H; have hnb18 := NB363_364.out; have hnc18 := NB364_363.out; have hnb19 := NB363_365.out; have hnc19 := NB365_363.out; obtain ⟨hcz20_0, hcz20_1, hcz20_2, hcz20_3, hcz20_4, hfz20_0, hfz20_1, hfz20_2, hfz20_3, hfz20_4⟩ := bz5_ BK363
   go_wp2_with (first | ((with_reducible refine gc_ 16 rfl ?_); refine gl_ 13 Try.func16 #[.agg #[.int .i64 a0_0, .int .i64 a0_1, .int .i64 a0_2, .int .i64 a0_3, .slice A0_4 l0_4.length c0_4]] ?_; (with_reducible refine (spec_FairOk.calls k a0_0 a0_1 a0_2 a0_3 _ _ l0_4 false _ ?side1 ?side2 A8.out).mono ?_); (case side1 => repeat (first | exact (Kd.C_below HR0_4.out HB.out) | (with_reducible refine Kd.C_alloc ?_ _) | (with_reducible refine Kd.C_drewN ?_ _) | (with_reducible refine Kd.C_drew ?_))); (case side2 => exact HC0_4.out); rintro e w21 ⟨rfl, hb⟩; refine ⟨_, rfl, ?_⟩; replace BK363 := bb_ BK363 hb; replace BK364 := bb_ BK364 hb; replace BK365 := bb_ BK365 hb; replace HB := Aside0.mk (below_step (bf_ HB) hb); (try clear hb); (try clear hb2); (try clear hk); (try clear hi)))
   go_meet
   case rel => exact ⟨_, (true), (by first | rfl | (simp; done) | (simp [*]; done)), H', ⟨by first | omega | exact Nat.le_refl _⟩, ⟨bk_ BK363⟩, ⟨bk_ BK364⟩, ⟨bk_ BK365⟩, ⟨bf_ HB⟩⟩
 case rest =>
  clear HC4; (try clear c1); (try clear p2); (try clear c4); (try clear c9); (try clear c11); (try clear c12); (try clear c15); (try clear c16); (try clear c18); (try clear c19); (try clear hcz13_0 hcz13_1 hcz13_2 hcz13_3 hcz13_4 hfz13_0 hfz13_1 hfz13_2 hfz13_3 hfz13_4); (try clear hcz16_0 hcz16_1 hcz16_2 hfz16_0 hfz16_1 hfz16_2); (try clear hcz20_0 hcz20_1 hcz20_2 hcz20_3 hcz20_4 hfz20_0 hfz20_1 hfz20_2 hfz20_3 hfz20_4)
  obtain ⟨kq, x19_3, rfl, HA, HJ3, BK363, BK364, BK365, HB⟩ := hcut
  cases kq with
  | zero => exact absurd HA.out (by simp [spec_FairServe.j0])
  | succ kj3 =>
   have H := HA.out
   clear HA
   simp only [spec_FairServe.j0] at H
   by_cases c22 : x19_3 = true
   ·subst c22
    have H1 : (some (0, 0, 0, 0, ([] : List (S38)), 1)) = some (r1, r2, r3, r4, r5, r6) := by rw [if_pos rfl] at H; exact H
    clear H
    have H := H1
    clear H1
    simp only [Option.some.injEq, Prod.mk.injEq] at H
    obtain ⟨rfl, rfl, rfl, rfl, rfl, rfl⟩ := H
    have hnb23 := NB365_363.out; have hnc23 := NB363_365.out; have hnb24 := NB365_364.out; have hnc24 := NB364_365.out; obtain ⟨hcz25_0, hcz25_1, hcz25_2, hcz25_3, hcz25_4, hfz25_0, hfz25_1, hfz25_2, hfz25_3, hfz25_4⟩ := bz5_ BK365
    go_wp2
    refine bodyPost_ret (results_ct rfl _ _ gb365 32 #[.int .i64 0, .int .i64 0, .int .i64 0, .int .i64 0, .slice none 0 0] (0, 0) _ rfl (by (with_reducible repeat (first | refine blk_drewN ?_ _ | refine blk_drew ?_ | refine blk_alloc ?_ _)); refine blk_put (cs := #[.int .i64 0, .int .i64 0, .int .i64 0, .int .i64 0, .slice none 0 0]) ?_ 4 _ rfl; (with_reducible repeat (first | refine blk_drewN ?_ _ | refine blk_drew ?_ | refine blk_alloc ?_ _)); refine blk_put (cs := #[.int .i64 0, .int .i64 0, .int .i64 0, .int .i64 0, .slice none 0 0]) ?_ 3 _ rfl; (with_reducible repeat (first | refine blk_drewN ?_ _ | refine blk_drew ?_ | refine blk_alloc ?_ _)); refine blk_put (cs := #[.int .i64 0, .int .i64 0, .int .i64 0, .int .i64 0, .slice none 0 0]) ?_ 2 _ rfl; (with_reducible repeat (first | refine blk_drewN ?_ _ | refine blk_drew ?_ | refine blk_alloc ?_ _)); refine blk_put (cs := #[.int .i64 0, .int .i64 0, .int .i64 0, .int .i64 0, .slice none 0 0]) ?_ 1 _ rfl; (with_reducible repeat (first | refine blk_drewN ?_ _ | refine blk_drew ?_ | refine blk_alloc ?_ _)); refine blk_put (cs := #[.int .i64 0, .int .i64 0, .int .i64 0, .int .i64 0, .slice none 0 0]) ?_ 0 _ rfl; exact bk_ BK365) Try.underlying32 rfl (by kernel_rfl)) rfl ?_
    exact ⟨_, by first | rfl | (simp [errW_none, errW_some] <;> rfl) | (simp [*, errW_none, errW_some] <;> rfl), by first | exact Kd.R_nil _ _ _ _ _ | exact Kd.N_nil _ _ _ _ _ | exact Kd.V_nil _ _ _ _ _ | exact Kd.Q_nil _ _ _ _ _ | exact Kd.S_nil _ _ _ _ _, bf_ HB⟩
   ·replace c22 := Bool.eq_false_iff.mpr c22
    subst c22
    have H1 : ((spec_FairPick.f kj3 a0_0 a0_1 a0_2 a0_3 l0_4).bind fun t368 => ((spec_l18At.f kj3 a0_0 a0_1 a0_2 a0_3 l0_4 t368).bind fun t369 => (if t369 < 0 then (some (0, 0, 0, 0, ([] : List (S38)), 4)) else ((spec_l18Copy.f a0_0 a0_1 a0_2 a0_3 l0_4).bind fun bt370 => (if 0 ≤ t369 then (if t369 < (l0_4.length : Int) then ((spec_VecMost.f a0_1 a0_2 a0_3 ((rd_T38 l0_4 t369).f3.f0) ((rd_T38 l0_4 t369).f3.f1) ((rd_T38 l0_4 t369).f3.f2)).bind fun bt379 => ((spec_VecTop.f bt379.1 bt379.2.1 bt379.2.2).bind fun t382 => (if t382 > 100000000000 then (some (0, 0, 0, 0, ([] : List (S38)), 7)) else ((spec_Finish.f kj3 ((rd_T38 l0_4 t369).f3.f0) ((rd_T38 l0_4 t369).f3.f1) ((rd_T38 l0_4 t369).f3.f2) a1_0 a1_1 a1_2 ((rd_T38 l0_4 t369).f1)).bind fun bt385 => ((spec_Dovetail.f kj3 bt385.1 bt385.2.1 bt385.2.2.1 a0_0).bind fun bt390 => (if t369 < (bt370.2.2.2.2.length : Int) then ((some (bt370.2.2.2.2.set (t369 : Int).toNat (⟨(rd_T38 bt370.2.2.2.2 t369).f0, (rd_T38 bt370.2.2.2.2 t369).f1, (rd_T38 bt370.2.2.2.2 t369).f2, (⟨bt390.1, bt390.2.1, bt390.2.2⟩ : S29)⟩ : S38) : List (S38))).bind fun y393 => (some (bt370.1, bt379.1, bt379.2.1, bt379.2.2, (y393.set (t369 : Int).toNat (⟨(rd_T38 y393 t369).f0, (rd_T38 y393 t369).f1, a2, (⟨(rd_T38 y393 t369).f3.f0, (rd_T38 y393 t369).f3.f1, (rd_T38 y393 t369).f3.f2⟩ : S29)⟩ : S38)), 0))) else (none))))))) else (none)) else (none)))))) = some (r1, r2, r3, r4, r5, r6) := by rw [if_neg (show ¬ (false = true) by decide)] at H; exact H
    clear H
    have H := H1
    clear H1
    replace H := Option.bind_eq_some_iff.mp H
    obtain ⟨t368, A260, H⟩ := H
    replace H : ((spec_l18At.f kj3 a0_0 a0_1 a0_2 a0_3 l0_4 t368).bind fun t369 => (if t369 < 0 then (some (0, 0, 0, 0, ([] : List (S38)), 4)) else ((spec_l18Copy.f a0_0 a0_1 a0_2 a0_3 l0_4).bind fun bt370 => (if 0 ≤ t369 then (if t369 < (l0_4.length : Int) then ((spec_VecMost.f a0_1 a0_2 a0_3 ((rd_T38 l0_4 t369).f3.f0) ((rd_T38 l0_4 t369).f3.f1) ((rd_T38 l0_4 t369).f3.f2)).bind fun bt379 => ((spec_VecTop.f bt379.1 bt379.2.1 bt379.2.2).bind fun t382 => (if t382 > 100000000000 then (some (0, 0, 0, 0, ([] : List (S38)), 7)) else ((spec_Finish.f kj3 ((rd_T38 l0_4 t369).f3.f0) ((rd_T38 l0_4 t369).f3.f1) ((rd_T38 l0_4 t369).f3.f2) a1_0 a1_1 a1_2 ((rd_T38 l0_4 t369).f1)).bind fun bt385 => ((spec_Dovetail.f kj3 bt385.1 bt385.2.1 bt385.2.2.1 a0_0).bind fun bt390 => (if t369 < (bt370.2.2.2.2.length : Int) then ((some (bt370.2.2.2.2.set (t369 : Int).toNat (⟨(rd_T38 bt370.2.2.2.2 t369).f0, (rd_T38 bt370.2.2.2.2 t369).f1, (rd_T38 bt370.2.2.2.2 t369).f2, (⟨bt390.1, bt390.2.1, bt390.2.2⟩ : S29)⟩ : S38) : List (S38))).bind fun y393 => (some (bt370.1, bt379.1, bt379.2.1, bt379.2.2, (y393.set (t369 : Int).toNat (⟨(rd_T38 y393 t369).f0, (rd_T38 y393 t369).f1, a2, (⟨(rd_T38 y393 t369).f3.f0, (rd_T38 y393 t369).f3.f1, (rd_T38 y393 t369).f3.f2⟩ : S29)⟩ : S38)), 0))) else (none))))))) else (none)) else (none))))) = some (r1, r2, r3, r4, r5, r6) := H
    have A26 := Aside0.mk A260
    clear A260
    replace H := Option.bind_eq_some_iff.mp H
    obtain ⟨t369, A270, H⟩ := H
    replace H : (if t369 < 0 then (some (0, 0, 0, 0, ([] : List (S38)), 4)) else ((spec_l18Copy.f a0_0 a0_1 a0_2 a0_3 l0_4).bind fun bt370 => (if 0 ≤ t369 then (if t369 < (l0_4.length : Int) then ((spec_VecMost.f a0_1 a0_2 a0_3 ((rd_T38 l0_4 t369).f3.f0) ((rd_T38 l0_4 t369).f3.f1) ((rd_T38 l0_4 t369).f3.f2)).bind fun bt379 => ((spec_VecTop.f bt379.1 bt379.2.1 bt379.2.2).bind fun t382 => (if t382 > 100000000000 then (some (0, 0, 0, 0, ([] : List (S38)), 7)) else ((spec_Finish.f kj3 ((rd_T38 l0_4 t369).f3.f0) ((rd_T38 l0_4 t369).f3.f1) ((rd_T38 l0_4 t369).f3.f2) a1_0 a1_1 a1_2 ((rd_T38 l0_4 t369).f1)).bind fun bt385 => ((spec_Dovetail.f kj3 bt385.1 bt385.2.1 bt385.2.2.1 a0_0).bind fun bt390 => (if t369 < (bt370.2.2.2.2.length : Int) then ((some (bt370.2.2.2.2.set (t369 : Int).toNat (⟨(rd_T38 bt370.2.2.2.2 t369).f0, (rd_T38 bt370.2.2.2.2 t369).f1, (rd_T38 bt370.2.2.2.2 t369).f2, (⟨bt390.1, bt390.2.1, bt390.2.2⟩ : S29)⟩ : S38) : List (S38))).bind fun y393 => (some (bt370.1, bt379.1, bt379.2.1, bt379.2.2, (y393.set (t369 : Int).toNat (⟨(rd_T38 y393 t369).f0, (rd_T38 y393 t369).f1, a2, (⟨(rd_T38 y393 t369).f3.f0, (rd_T38 y393 t369).f3.f1, (rd_T38 y393 t369).f3.f2⟩ : S29)⟩ : S38)), 0))) else (none))))))) else (none)) else (none)))) = some (r1, r2, r3, r4, r5, r6) := H
    have A27 := Aside0.mk A270
    clear A270
    by_cases c28 : t369 < 0
    ·rw [if_pos c28] at H
     have c28b0 : decide (t369 < 0) = true := decide_eq_true c28
     clear c28
     simp only [Option.some.injEq, Prod.mk.injEq] at H
     obtain ⟨rfl, rfl, rfl, rfl, rfl, rfl⟩ := H
     try go_wp2
     replace BK363 := Aside0.mk (blk_drew BK363.out); replace BK364 := Aside0.mk (blk_drew BK364.out); replace BK365 := Aside0.mk (blk_drew BK365.out); replace HB := Aside0.mk (below_drew1 HB.out)
     refine start_ (n := 5) (S := fun w' => cw_ w' gb363 0 (.int .i64 a0_0) ∧ cw_ w' gb363 1 (.int .i64 a0_1) ∧ cw_ w' gb363 2 (.int .i64 a0_2) ∧ cw_ w' gb363 3 (.int .i64 a0_3) ∧ cw_ w' gb363 4 (.slice A0_4 l0_4.length c0_4)) (ds := []) (bs 5 0) (by kernel_rfl) rfl rfl ⟨bt_ BK363 0, bt_ BK363 1, bt_ BK363 2, bt_ BK363 3, bt_ BK363 4⟩ (fun hHeld => ?_)
     generalize wc.drew = w29 at BK363 BK364 BK365 HB hHeld ⊢
     refine tk0_ 0 21 (bs 5 1) hHeld ?_
     refine tk0_ 1 22 (bs 5 2) hHeld ?_
     refine on0_ 2 (some 23) (bs 5 3) (fun K hK => ?_)
     refine gs_ Try.func20 #[.agg #[.int .i64 a0_0, .int .i64 a0_1, .int .i64 a0_2, .int .i64 a0_3, .slice A0_4 l0_4.length c0_4]] ?_
     with_reducible refine (spec_FairPick.calls kj3 a0_0 a0_1 a0_2 a0_3 _ _ l0_4 t368 _ ?side1 ?side2 A26.out).mono ?_
     (case side1 => repeat (first | exact (Kd.C_below HR0_4.out HB.out) | (with_reducible refine Kd.C_alloc ?_ _) | (with_reducible refine Kd.C_drewN ?_ _) | (with_reducible refine Kd.C_drew ?_)))
     (case side2 => exact HC0_4.out)
     rintro e w30 ⟨rfl, hb⟩
     refine ⟨_, rfl, ?_⟩
     replace BK363 := bb_ BK363 hb; replace BK364 := bb_ BK364 hb; replace BK365 := bb_ BK365 hb; replace HB := Aside0.mk (below_step (bf_ HB) hb); (try clear hb); (try clear hb2); (try clear hk); (try clear hi)
     refine hK.out _ _ ⟨bt_ BK363 0, bt_ BK363 1, bt_ BK363 2, bt_ BK363 3, bt_ BK363 4⟩ (fun hHeld => ?_)
     clear hK K
     refine norm_ (a' := ?_) ?_ ?_
     rotate_left
     ·show Act.put _ (some 23) _ = _
      simp only [Act.put, ls0_, ls1_, ls2_, i64_w, i32_w]
      rfl
     refine on0_ 3 (some 24) (bs 5 4) (fun K hK => ?_)
     refine gs_ Try.func57 #[.agg #[.int .i64 a0_0, .int .i64 a0_1, .int .i64 a0_2, .int .i64 a0_3, .slice A0_4 l0_4.length c0_4], .int .i64 t368] ?_
     with_reducible refine (spec_l18At.calls kj3 a0_0 a0_1 a0_2 a0_3 _ _ l0_4 t368 t369 _ ?side1 ?side2 A27.out).mono ?_
     (case side1 => repeat (first | exact (Kd.C_below HR0_4.out HB.out) | (with_reducible refine Kd.C_alloc ?_ _) | (with_reducible refine Kd.C_drewN ?_ _) | (with_reducible refine Kd.C_drew ?_)))
     (case side2 => exact HC0_4.out)
     rintro e w31 ⟨rfl, hb⟩
     refine ⟨_, rfl, ?_⟩
     replace BK363 := bb_ BK363 hb; replace BK364 := bb_ BK364 hb; replace BK365 := bb_ BK365 hb; replace HB := Aside0.mk (below_step (bf_ HB) hb); (try clear hb); (try clear hb2); (try clear hk); (try clear hi)
     refine hK.out _ _ ⟨bt_ BK363 0, bt_ BK363 1, bt_ BK363 2, bt_ BK363 3, bt_ BK363 4⟩ (fun hHeld => ?_)
     clear hK K
     refine norm_ (a' := ?_) ?_ ?_
     rotate_left
     ·show Act.put _ (some 24) _ = _
      simp only [Act.put, ls0_, ls1_, ls2_, i64_w, i32_w]
      rfl
     refine ps0_ 4 8 (bs 5 5) ?_
     refine done_ (by kernel_rfl) ?_
     have hnb32 := NB365_363.out; have hnc32 := NB363_365.out; have hnb33 := NB365_364.out; have hnc33 := NB364_365.out; obtain ⟨hcz34_0, hcz34_1, hcz34_2, hcz34_3, hcz34_4, hfz34_0, hfz34_1, hfz34_2, hfz34_3, hfz34_4⟩ := bz5_ BK365
     try go_wp2
     refine bodyPost_ret (results_ct rfl _ _ gb365 32 #[.int .i64 0, .int .i64 0, .int .i64 0, .int .i64 0, .slice none 0 0] (0, 0) _ rfl (by (with_reducible repeat (first | refine blk_drewN ?_ _ | refine blk_drew ?_ | refine blk_alloc ?_ _)); refine blk_put (cs := #[.int .i64 0, .int .i64 0, .int .i64 0, .int .i64 0, .slice none 0 0]) ?_ 4 _ rfl; (with_reducible repeat (first | refine blk_drewN ?_ _ | refine blk_drew ?_ | refine blk_alloc ?_ _)); refine blk_put (cs := #[.int .i64 0, .int .i64 0, .int .i64 0, .int .i64 0, .slice none 0 0]) ?_ 3 _ rfl; (with_reducible repeat (first | refine blk_drewN ?_ _ | refine blk_drew ?_ | refine blk_alloc ?_ _)); refine blk_put (cs := #[.int .i64 0, .int .i64 0, .int .i64 0, .int .i64 0, .slice none 0 0]) ?_ 2 _ rfl; (with_reducible repeat (first | refine blk_drewN ?_ _ | refine blk_drew ?_ | refine blk_alloc ?_ _)); refine blk_put (cs := #[.int .i64 0, .int .i64 0, .int .i64 0, .int .i64 0, .slice none 0 0]) ?_ 1 _ rfl; (with_reducible repeat (first | refine blk_drewN ?_ _ | refine blk_drew ?_ | refine blk_alloc ?_ _)); refine blk_put (cs := #[.int .i64 0, .int .i64 0, .int .i64 0, .int .i64 0, .slice none 0 0]) ?_ 0 _ rfl; exact bk_ BK365) Try.underlying32 rfl (by kernel_rfl)) rfl ?_
     exact ⟨_, by first | rfl | (simp [errW_none, errW_some] <;> rfl) | (simp [*, errW_none, errW_some] <;> rfl), by first | exact Kd.R_nil _ _ _ _ _ | exact Kd.N_nil _ _ _ _ _ | exact Kd.V_nil _ _ _ _ _ | exact Kd.Q_nil _ _ _ _ _ | exact Kd.S_nil _ _ _ _ _, bf_ HB⟩
    ·rw [if_neg c28] at H
     have c28b0 : decide (t369 < 0) = false := decide_eq_false c28
     clear c28
     replace H := Option.bind_eq_some_iff.mp H
     obtain ⟨⟨t370, t371, t372, t373, t374⟩, A350, H⟩ := H
     replace H : (if 0 ≤ t369 then (if t369 < (l0_4.length : Int) then ((spec_VecMost.f a0_1 a0_2 a0_3 ((rd_T38 l0_4 t369).f3.f0) ((rd_T38 l0_4 t369).f3.f1) ((rd_T38 l0_4 t369).f3.f2)).bind fun bt379 => ((spec_VecTop.f bt379.1 bt379.2.1 bt379.2.2).bind fun t382 => (if t382 > 100000000000 then (some (0, 0, 0, 0, ([] : List (S38)), 7)) else ((spec_Finish.f kj3 ((rd_T38 l0_4 t369).f3.f0) ((rd_T38 l0_4 t369).f3.f1) ((rd_T38 l0_4 t369).f3.f2) a1_0 a1_1 a1_2 ((rd_T38 l0_4 t369).f1)).bind fun bt385 => ((spec_Dovetail.f kj3 bt385.1 bt385.2.1 bt385.2.2.1 a0_0).bind fun bt390 => (if t369 < (t374.length : Int) then ((some (t374.set (t369 : Int).toNat (⟨(rd_T38 t374 t369).f0, (rd_T38 t374 t369).f1, (rd_T38 t374 t369).f2, (⟨bt390.1, bt390.2.1, bt390.2.2⟩ : S29)⟩ : S38) : List (S38))).bind fun y393 => (some (t370, bt379.1, bt379.2.1, bt379.2.2, (y393.set (t369 : Int).toNat (⟨(rd_T38 y393 t369).f0, (rd_T38 y393 t369).f1, a2, (⟨(rd_T38 y393 t369).f3.f0, (rd_T38 y393 t369).f3.f1, (rd_T38 y393 t369).f3.f2⟩ : S29)⟩ : S38)), 0))) else (none))))))) else (none)) else (none)) = some (r1, r2, r3, r4, r5, r6) := H
     have A35 := Aside0.mk A350
     clear A350
     by_cases c36 : 0 ≤ t369
     ·rw [if_pos c36] at H
      have c36b0 : decide (0 ≤ t369) = true := decide_eq_true c36
      clear c36
      by_cases c37 : t369 < (l0_4.length : Int)
      ·rw [if_pos c37] at H
       have c37b0 : decide (t369 < (l0_4.length : Int)) = true := decide_eq_true c37
       clear c37
       replace H := Option.bind_eq_some_iff.mp H
       obtain ⟨⟨t379, t380, t381⟩, A380, H⟩ := H
       replace H : ((spec_VecTop.f t379 t380 t381).bind fun t382 => (if t382 > 100000000000 then (some (0, 0, 0, 0, ([] : List (S38)), 7)) else ((spec_Finish.f kj3 ((rd_T38 l0_4 t369).f3.f0) ((rd_T38 l0_4 t369).f3.f1) ((rd_T38 l0_4 t369).f3.f2) a1_0 a1_1 a1_2 ((rd_T38 l0_4 t369).f1)).bind fun bt385 => ((spec_Dovetail.f kj3 bt385.1 bt385.2.1 bt385.2.2.1 a0_0).bind fun bt390 => (if t369 < (t374.length : Int) then ((some (t374.set (t369 : Int).toNat (⟨(rd_T38 t374 t369).f0, (rd_T38 t374 t369).f1, (rd_T38 t374 t369).f2, (⟨bt390.1, bt390.2.1, bt390.2.2⟩ : S29)⟩ : S38) : List (S38))).bind fun y393 => (some (t370, t379, t380, t381, (y393.set (t369 : Int).toNat (⟨(rd_T38 y393 t369).f0, (rd_T38 y393 t369).f1, a2, (⟨(rd_T38 y393 t369).f3.f0, (rd_T38 y393 t369).f3.f1, (rd_T38 y393 t369).f3.f2⟩ : S29)⟩ : S38)), 0))) else (none)))))) = some (r1, r2, r3, r4, r5, r6) := H
       have A38 := Aside0.mk A380
       clear A380
       replace H := Option.bind_eq_some_iff.mp H
       obtain ⟨t382, A390, H⟩ := H
       replace H : (if t382 > 100000000000 then (some (0, 0, 0, 0, ([] : List (S38)), 7)) else ((spec_Finish.f kj3 ((rd_T38 l0_4 t369).f3.f0) ((rd_T38 l0_4 t369).f3.f1) ((rd_T38 l0_4 t369).f3.f2) a1_0 a1_1 a1_2 ((rd_T38 l0_4 t369).f1)).bind fun bt385 => ((spec_Dovetail.f kj3 bt385.1 bt385.2.1 bt385.2.2.1 a0_0).bind fun bt390 => (if t369 < (t374.length : Int) then ((some (t374.set (t369 : Int).toNat (⟨(rd_T38 t374 t369).f0, (rd_T38 t374 t369).f1, (rd_T38 t374 t369).f2, (⟨bt390.1, bt390.2.1, bt390.2.2⟩ : S29)⟩ : S38) : List (S38))).bind fun y393 => (some (t370, t379, t380, t381, (y393.set (t369 : Int).toNat (⟨(rd_T38 y393 t369).f0, (rd_T38 y393 t369).f1, a2, (⟨(rd_T38 y393 t369).f3.f0, (rd_T38 y393 t369).f3.f1, (rd_T38 y393 t369).f3.f2⟩ : S29)⟩ : S38)), 0))) else (none))))) = some (r1, r2, r3, r4, r5, r6) := H
       have A39 := Aside0.mk A390
       clear A390
       by_cases c40 : t382 > 100000000000
       ·rw [if_pos c40] at H
        have c40b0 : decide (100000000000 < t382) = true := decide_eq_true c40
        clear c40
        simp only [Option.some.injEq, Prod.mk.injEq] at H
        obtain ⟨rfl, rfl, rfl, rfl, rfl, rfl⟩ := H
        try go_wp2
        replace BK363 := Aside0.mk (blk_drew BK363.out); replace BK364 := Aside0.mk (blk_drew BK364.out); replace BK365 := Aside0.mk (blk_drew BK365.out); replace HB := Aside0.mk (below_drew1 HB.out)
        refine start_ (n := 5) (S := fun w' => cw_ w' gb363 0 (.int .i64 a0_0) ∧ cw_ w' gb363 1 (.int .i64 a0_1) ∧ cw_ w' gb363 2 (.int .i64 a0_2) ∧ cw_ w' gb363 3 (.int .i64 a0_3) ∧ cw_ w' gb363 4 (.slice A0_4 l0_4.length c0_4)) (ds := []) (bs 5 0) (by kernel_rfl) rfl rfl ⟨bt_ BK363 0, bt_ BK363 1, bt_ BK363 2, bt_ BK363 3, bt_ BK363 4⟩ (fun hHeld => ?_)
        generalize wc.drew = w41 at BK363 BK364 BK365 HB hHeld ⊢
        refine tk0_ 0 21 (bs 5 1) hHeld ?_
        refine tk0_ 1 22 (bs 5 2) hHeld ?_
        refine on0_ 2 (some 23) (bs 5 3) (fun K hK => ?_)
        refine gs_ Try.func20 #[.agg #[.int .i64 a0_0, .int .i64 a0_1, .int .i64 a0_2, .int .i64 a0_3, .slice A0_4 l0_4.length c0_4]] ?_
        with_reducible refine (spec_FairPick.calls kj3 a0_0 a0_1 a0_2 a0_3 _ _ l0_4 t368 _ ?side1 ?side2 A26.out).mono ?_
        (case side1 => repeat (first | exact (Kd.C_below HR0_4.out HB.out) | (with_reducible refine Kd.C_alloc ?_ _) | (with_reducible refine Kd.C_drewN ?_ _) | (with_reducible refine Kd.C_drew ?_)))
        (case side2 => exact HC0_4.out)
        rintro e w42 ⟨rfl, hb⟩
        refine ⟨_, rfl, ?_⟩
        replace BK363 := bb_ BK363 hb; replace BK364 := bb_ BK364 hb; replace BK365 := bb_ BK365 hb; replace HB := Aside0.mk (below_step (bf_ HB) hb); (try clear hb); (try clear hb2); (try clear hk); (try clear hi)
        refine hK.out _ _ ⟨bt_ BK363 0, bt_ BK363 1, bt_ BK363 2, bt_ BK363 3, bt_ BK363 4⟩ (fun hHeld => ?_)
        clear hK K
        refine norm_ (a' := ?_) ?_ ?_
        rotate_left
        ·show Act.put _ (some 23) _ = _
         simp only [Act.put, ls0_, ls1_, ls2_, i64_w, i32_w]
         rfl
        refine on0_ 3 (some 24) (bs 5 4) (fun K hK => ?_)
        refine gs_ Try.func57 #[.agg #[.int .i64 a0_0, .int .i64 a0_1, .int .i64 a0_2, .int .i64 a0_3, .slice A0_4 l0_4.length c0_4], .int .i64 t368] ?_
        with_reducible refine (spec_l18At.calls kj3 a0_0 a0_1 a0_2 a0_3 _ _ l0_4 t368 t369 _ ?side1 ?side2 A27.out).mono ?_
        (case side1 => repeat (first | exact (Kd.C_below HR0_4.out HB.out) | (with_reducible refine Kd.C_alloc ?_ _) | (with_reducible refine Kd.C_drewN ?_ _) | (with_reducible refine Kd.C_drew ?_)))
        (case side2 => exact HC0_4.out)
        rintro e w43 ⟨rfl, hb⟩
        refine ⟨_, rfl, ?_⟩
        replace BK363 := bb_ BK363 hb; replace BK364 := bb_ BK364 hb; replace BK365 := bb_ BK365 hb; replace HB := Aside0.mk (below_step (bf_ HB) hb); (try clear hb); (try clear hb2); (try clear hk); (try clear hi)
        refine hK.out _ _ ⟨bt_ BK363 0, bt_ BK363 1, bt_ BK363 2, bt_ BK363 3, bt_ BK363 4⟩ (fun hHeld => ?_)
        clear hK K
        refine norm_ (a' := ?_) ?_ ?_
        rotate_left
        ·show Act.put _ (some 24) _ = _
         simp only [Act.put, ls0_, ls1_, ls2_, i64_w, i32_w]
         rfl
        refine ps0_ 4 8 (bs 5 5) ?_
        refine done_ (by kernel_rfl) ?_
        have hnb44 := NB363_364.out; have hnc44 := NB364_363.out; have hnb45 := NB363_365.out; have hnc45 := NB365_363.out; obtain ⟨hcz46_0, hcz46_1, hcz46_2, hcz46_3, hcz46_4, hfz46_0, hfz46_1, hfz46_2, hfz46_3, hfz46_4⟩ := bz5_ BK363
        try go_wp2_with (first | ((with_reducible refine gc_ 61 rfl ?_); refine gl_ 29 Try.func61 #[.agg #[.int .i64 a0_0, .int .i64 a0_1, .int .i64 a0_2, .int .i64 a0_3, .slice A0_4 l0_4.length c0_4]] ?_; (with_reducible refine (spec_l18Copy.calls a0_0 a0_1 a0_2 a0_3 _ _ l0_4 t370 t371 t372 t373 t374 _ ?side1 ?side2 A35.out).mono ?_); (case side1 => repeat (first | exact (Kd.C_below HR0_4.out HB.out) | (with_reducible refine Kd.C_alloc ?_ _) | (with_reducible refine Kd.C_drewN ?_ _) | (with_reducible refine Kd.C_drew ?_))); (case side2 => exact HC0_4.out); rintro e w47 ⟨v375, rfl, ho0, hb⟩; refine ⟨_, rfl, ?_⟩; have HO376 := Aside0.mk (Kd.R_lower ho0 (below_size (bf_ HB))); replace BK363 := bb_ BK363 hb; replace BK364 := bb_ BK364 hb; replace BK365 := bb_ BK365 hb; replace HB := Aside0.mk (below_step (bf_ HB) hb); (try clear hb); (try clear hb2); (try clear hk); (try clear hi); (try clear ho0)) | ((with_reducible refine gd_ 9 rfl ?_); refine bv_ 9 #[.int .i64 0, .int .i64 0, .int .i64 0, .int .i64 0, .slice none 0 0] 32 ?_; intro gb377 hg w48 hbox hb; replace HO376 := Aside0.mk (Kd.R_below (kr_ HO376) hb); have BK377 := Aside0.mk (hbox); have GW377 := gw_ HB hg; have GE377 := gw_ HB hg; replace HB := Aside0.mk (below_step (bf_ HB) hb); have NB363_377 := nl_ BK363 hg; have NB377_363 := ng_ BK363 hg; replace BK363 := bb_ BK363 hb; have NB364_377 := nl_ BK364 hg; have NB377_364 := ng_ BK364 hg; replace BK364 := bb_ BK364 hb; have NB365_377 := nl_ BK365 hg; have NB377_365 := ng_ BK365 hg; replace BK365 := bb_ BK365 hb; clear hb hbox hg; have hnb49 := NB377_363.out; have hnc49 := NB363_377.out; have hnb50 := NB377_364.out; have hnc50 := NB364_377.out; have hnb51 := NB377_365.out; have hnc51 := NB365_377.out; obtain ⟨hcz52_0, hcz52_1, hcz52_2, hcz52_3, hcz52_4, hfz52_0, hfz52_1, hfz52_2, hfz52_3, hfz52_4⟩ := bz5_ BK377; obtain ⟨Ao53, co53, eo53⟩ := Kd.R_slice HO376.out; subst eo53))
        generalize hW_ : (((((w48.setCell ⟨gb377, 0, none⟩ (.int .i64 t370)).setCell ⟨gb377, 1, none⟩ (.int .i64 t371)).setCell ⟨gb377, 2, none⟩ (.int .i64 t372)).setCell ⟨gb377, 3, none⟩ (.int .i64 t373)).setCell ⟨gb377, 4, none⟩ (.slice Ao53 t374.length co53)) = w54
        replace HO376 : Aside0 (Kd.R k38 38 w54 w.heap.size (fun _ => True) (.slice Ao53 t374.length co53) t374) := ⟨by cases hW_; (with_reducible repeat (first | apply Kd.R_alloc | apply Kd.R_drewN | apply Kd.R_drew)); exact Kd.R_mono (Kd.R_far (p := ⟨gb377, 4, none⟩) (Kd.R_far (p := ⟨gb377, 3, none⟩) (Kd.R_far (p := ⟨gb377, 2, none⟩) (Kd.R_far (p := ⟨gb377, 1, none⟩) (Kd.R_far (p := ⟨gb377, 0, none⟩) (Kd.R_types HO376.out BK377.out (by decide)) (fun _ hk => by first | exact hk.2 | grind) (.int .i64 t370)) (fun _ hk => by first | exact hk.2 | grind) (.int .i64 t371)) (fun _ hk => by first | exact hk.2 | grind) (.int .i64 t372)) (fun _ hk => by first | exact hk.2 | grind) (.int .i64 t373)) (fun _ hk => by first | exact hk.2 | grind) (.slice Ao53 t374.length co53)) (fun _ hk => by first | exact trivial | grind)⟩
        replace BK363 := fc5_ hW_ BK363 NB363_377
        replace BK364 := fc5_ hW_ BK364 NB364_377
        replace BK365 := fc5_ hW_ BK365 NB365_377
        replace BK377 : Aside0 (w54.heap[gb377]? = some (.cells #[.int .i64 t370, .int .i64 t371, .int .i64 t372, .int .i64 t373, .slice Ao53 t374.length co53] 32 (0, 0))) := pc5_ hW_ BK377
        replace HB : Aside0 (Below w.heap.size w w54) := ⟨by cases hW_; exact bf_ HB⟩
        clear hW_; replace HO376 := Aside0.mk (Kd.R_drew HO376.out); replace BK363 := Aside0.mk (blk_drew BK363.out); replace BK364 := Aside0.mk (blk_drew BK364.out); replace BK365 := Aside0.mk (blk_drew BK365.out); replace BK377 := Aside0.mk (blk_drew BK377.out); replace HB := Aside0.mk (below_drew1 HB.out)
        have p378 : 0 ≤ (t369 : Int) := od_
        have q378 : t369 < (l0_4.length : Int) := od_
        obtain ⟨ad378, e378, hx378_0, hx378_1, hx378_2, hx378_3, hx378_4, hx378_5⟩ := at_T38 HR0_4.out t369 p378 q378
        have hw378_5 := hx378_5; have hw378_4 := hx378_4; have hw378_3 := hx378_3; have hw378_2 := hx378_2; have hw378_1 := hx378_1; have hw378_0 := hx378_0
        cases e378
        replace hx378_0 := hb_ HB hx378_0
        replace hx378_1 := hb_ HB hx378_1
        replace hx378_2 := hb_ HB hx378_2
        replace hx378_3 := hb_ HB hx378_3
        replace hx378_4 := hb_ HB hx378_4
        replace hx378_5 := hb_ HB hx378_5
        replace p378 := eq_true p378
        replace q378 := eq_true q378
        refine start_ (n := 11) (S := fun w' => cw_ w' gb363 0 (.int .i64 a0_0) ∧ cw_ w' gb363 1 (.int .i64 a0_1) ∧ cw_ w' gb363 2 (.int .i64 a0_2) ∧ cw_ w' gb363 3 (.int .i64 a0_3) ∧ cw_ w' gb363 4 (.slice (some ad378) l0_4.length c0_4) ∧ w'.cell? (ad378.add ((t369).toNat * 6)) = some (.int .i64 ((rd_T38 l0_4 t369).f0)) ∧ w'.cell? ⟨(ad378.add ((t369).toNat * 6)).block, (ad378.add ((t369).toNat * 6)).off + 1, none⟩ = some (.int .i64 ((rd_T38 l0_4 t369).f1)) ∧ w'.cell? ⟨(ad378.add ((t369).toNat * 6)).block, (ad378.add ((t369).toNat * 6)).off + 2, none⟩ = some (.bool ((rd_T38 l0_4 t369).f2)) ∧ w'.cell? ⟨(ad378.add ((t369).toNat * 6)).block, (ad378.add ((t369).toNat * 6)).off + 3, none⟩ = some (.int .i64 ((rd_T38 l0_4 t369).f3.f0)) ∧ w'.cell? ⟨(ad378.add ((t369).toNat * 6)).block, (ad378.add ((t369).toNat * 6)).off + 4, none⟩ = some (.int .i64 ((rd_T38 l0_4 t369).f3.f1)) ∧ w'.cell? ⟨(ad378.add ((t369).toNat * 6)).block, (ad378.add ((t369).toNat * 6)).off + 5, none⟩ = some (.int .i64 ((rd_T38 l0_4 t369).f3.f2))) (ds := []) (bs 11 0) (by kernel_rfl) rfl rfl ⟨bt_ BK363 0, bt_ BK363 1, bt_ BK363 2, bt_ BK363 3, bt_ BK363 4, (hd_ HB hw378_0), (hd_ HB hw378_1), (hd_ HB hw378_2), (hd_ HB hw378_3), (hd_ HB hw378_4), (hd_ HB hw378_5)⟩ (fun hHeld => ?_); refine with_tabW spec_FairServe.tab7 spec_FairServe.bits7 (fun HT_ HW_ => ?_)
        generalize w54.drew = w55 at HO376 BK363 BK364 BK365 BK377 HB hx378_0 hx378_1 hx378_2 hx378_3 hx378_4 hx378_5 hHeld ⊢
        refine ps_ 0 30 (bs 11 1) HT_ ?_
        refine ps_ 2 32 (bm 11 5) HT_ ?_
        refine ps_ 4 34 (bm 11 21) HT_ ?_
        refine tk_ 1 31 (bm 11 23) HT_ HW_ hHeld ?_
        refine tk_ 3 33 (bs 11 5) HT_ HW_ hHeld ?_
        refine ps_ 5 35 (bs 11 6) HT_ ?_
        refine ps_ 6 36 (bs 11 7) HT_ ?_
        refine tk_ 7 37 (bs 11 8) HT_ HW_ hHeld ?_
        refine on_ 8 (some 38) (bs 11 9) HT_ (fun K hK => ?_)
        refine gs_ Try.func59 #[.agg #[.int .i64 a0_1, .int .i64 a0_2, .int .i64 a0_3], .agg #[.int .i64 ((rd_T38 l0_4 t369).f3.f0), .int .i64 ((rd_T38 l0_4 t369).f3.f1), .int .i64 ((rd_T38 l0_4 t369).f3.f2)]] ?_
        with_reducible refine (spec_VecMost.calls a0_1 a0_2 a0_3 ((rd_T38 l0_4 t369).f3.f0) ((rd_T38 l0_4 t369).f3.f1) ((rd_T38 l0_4 t369).f3.f2) t379 t380 t381 _ A38.out).mono ?_
        rintro e w56 ⟨rfl, hb⟩
        refine ⟨_, rfl, ?_⟩
        replace HO376 := Aside0.mk (Kd.R_below (kr_ HO376) hb); replace BK363 := bb_ BK363 hb; replace BK364 := bb_ BK364 hb; replace BK365 := bb_ BK365 hb; replace BK377 := bb_ BK377 hb; replace HB := Aside0.mk (below_step (bf_ HB) hb); (try clear hb); (try clear hb2); (try clear hk); (try clear hi)
        refine hK.out _ _ ⟨bt_ BK363 0, bt_ BK363 1, bt_ BK363 2, bt_ BK363 3, bt_ BK363 4, (hd_ HB hw378_0), (hd_ HB hw378_1), (hd_ HB hw378_2), (hd_ HB hw378_3), (hd_ HB hw378_4), (hd_ HB hw378_5)⟩ (fun hHeld => ?_)
        clear hK K
        refine norm_ (a' := ?_) ?_ ?_
        rotate_left
        ·show Act.put _ (some 38) _ = _
         simp only [Act.put, ls0_, ls1_, ls2_, i64_w, i32_w]
         rfl
        refine ps_ 9 39 (bs 11 10) HT_ ?_
        refine on_ 10 none (bs 11 11) HT_ (fun K hK => ?_)
        have hs57 := bc_ BK377 1 (.int .i64 t371) rfl; have hfs57 := blk_frozen BK377.out 1; have hns57_0 := NB363_377.out; have hns57_1 := NB364_377.out; have hns57_2 := NB365_377.out; have hms57_0 := NB377_363.out; have hms57_1 := NB377_364.out; have hms57_2 := NB377_365.out; have hs58 := bc_ BK377 2 (.int .i64 t372) rfl; have hfs58 := blk_frozen BK377.out 2; have hns58_0 := NB363_377.out; have hns58_1 := NB364_377.out; have hns58_2 := NB365_377.out; have hms58_0 := NB377_363.out; have hms58_1 := NB377_364.out; have hms58_2 := NB377_365.out; have hs59 := bc_ BK377 3 (.int .i64 t373) rfl; have hfs59 := blk_frozen BK377.out 3; have hns59_0 := NB363_377.out; have hns59_1 := NB364_377.out; have hns59_2 := NB365_377.out; have hms59_0 := NB377_363.out; have hms59_1 := NB377_364.out; have hms59_2 := NB377_365.out
        refine skip_ (w1 := ?_) (by rfl) rfl ?_ ?_
        rotate_left
        ·go_simp
         rfl
        refine hK.out _ _ ⟨(cf3_ NB363_377.out hHeld.1), (cf3_ NB363_377.out hHeld.2.1), (cf3_ NB363_377.out hHeld.2.2.1), (cf3_ NB363_377.out hHeld.2.2.2.1), (cf3_ NB363_377.out hHeld.2.2.2.2.1), (cf3_ (by first | exact Nat.ne_of_lt (Nat.lt_of_lt_of_le (by have := World.block_lt_of_cell? _ _ hw378_0; first | rwa [add_block] at this | exact this) GW377.out) | (rw [add_block]; exact Nat.ne_of_lt (Nat.lt_of_lt_of_le (by have := World.block_lt_of_cell? _ _ hw378_0; first | rwa [add_block] at this | exact this) GW377.out)) | (show (Addr.add _ _).block ≠ _; rw [add_block]; exact Nat.ne_of_lt (Nat.lt_of_lt_of_le (by have := World.block_lt_of_cell? _ _ hw378_0; first | rwa [add_block] at this | exact this) GW377.out)) | (dsimp only; exact Nat.ne_of_lt (Nat.lt_of_lt_of_le (by have := World.block_lt_of_cell? _ _ hw378_0; first | rwa [add_block] at this | exact this) GW377.out))) hHeld.2.2.2.2.2.1), (cf3_ (by first | exact Nat.ne_of_lt (Nat.lt_of_lt_of_le (by have := World.block_lt_of_cell? _ _ hw378_1; first | rwa [add_block] at this | exact this) GW377.out) | (rw [add_block]; exact Nat.ne_of_lt (Nat.lt_of_lt_of_le (by have := World.block_lt_of_cell? _ _ hw378_1; first | rwa [add_block] at this | exact this) GW377.out)) | (show (Addr.add _ _).block ≠ _; rw [add_block]; exact Nat.ne_of_lt (Nat.lt_of_lt_of_le (by have := World.block_lt_of_cell? _ _ hw378_1; first | rwa [add_block] at this | exact this) GW377.out)) | (dsimp only; exact Nat.ne_of_lt (Nat.lt_of_lt_of_le (by have := World.block_lt_of_cell? _ _ hw378_1; first | rwa [add_block] at this | exact this) GW377.out))) hHeld.2.2.2.2.2.2.1), (cf3_ (by first | exact Nat.ne_of_lt (Nat.lt_of_lt_of_le (by have := World.block_lt_of_cell? _ _ hw378_2; first | rwa [add_block] at this | exact this) GW377.out) | (rw [add_block]; exact Nat.ne_of_lt (Nat.lt_of_lt_of_le (by have := World.block_lt_of_cell? _ _ hw378_2; first | rwa [add_block] at this | exact this) GW377.out)) | (show (Addr.add _ _).block ≠ _; rw [add_block]; exact Nat.ne_of_lt (Nat.lt_of_lt_of_le (by have := World.block_lt_of_cell? _ _ hw378_2; first | rwa [add_block] at this | exact this) GW377.out)) | (dsimp only; exact Nat.ne_of_lt (Nat.lt_of_lt_of_le (by have := World.block_lt_of_cell? _ _ hw378_2; first | rwa [add_block] at this | exact this) GW377.out))) hHeld.2.2.2.2.2.2.2.1), (cf3_ (by first | exact Nat.ne_of_lt (Nat.lt_of_lt_of_le (by have := World.block_lt_of_cell? _ _ hw378_3; first | rwa [add_block] at this | exact this) GW377.out) | (rw [add_block]; exact Nat.ne_of_lt (Nat.lt_of_lt_of_le (by have := World.block_lt_of_cell? _ _ hw378_3; first | rwa [add_block] at this | exact this) GW377.out)) | (show (Addr.add _ _).block ≠ _; rw [add_block]; exact Nat.ne_of_lt (Nat.lt_of_lt_of_le (by have := World.block_lt_of_cell? _ _ hw378_3; first | rwa [add_block] at this | exact this) GW377.out)) | (dsimp only; exact Nat.ne_of_lt (Nat.lt_of_lt_of_le (by have := World.block_lt_of_cell? _ _ hw378_3; first | rwa [add_block] at this | exact this) GW377.out))) hHeld.2.2.2.2.2.2.2.2.1), (cf3_ (by first | exact Nat.ne_of_lt (Nat.lt_of_lt_of_le (by have := World.block_lt_of_cell? _ _ hw378_4; first | rwa [add_block] at this | exact this) GW377.out) | (rw [add_block]; exact Nat.ne_of_lt (Nat.lt_of_lt_of_le (by have := World.block_lt_of_cell? _ _ hw378_4; first | rwa [add_block] at this | exact this) GW377.out)) | (show (Addr.add _ _).block ≠ _; rw [add_block]; exact Nat.ne_of_lt (Nat.lt_of_lt_of_le (by have := World.block_lt_of_cell? _ _ hw378_4; first | rwa [add_block] at this | exact this) GW377.out)) | (dsimp only; exact Nat.ne_of_lt (Nat.lt_of_lt_of_le (by have := World.block_lt_of_cell? _ _ hw378_4; first | rwa [add_block] at this | exact this) GW377.out))) hHeld.2.2.2.2.2.2.2.2.2.1), (cf3_ (by first | exact Nat.ne_of_lt (Nat.lt_of_lt_of_le (by have := World.block_lt_of_cell? _ _ hw378_5; first | rwa [add_block] at this | exact this) GW377.out) | (rw [add_block]; exact Nat.ne_of_lt (Nat.lt_of_lt_of_le (by have := World.block_lt_of_cell? _ _ hw378_5; first | rwa [add_block] at this | exact this) GW377.out)) | (show (Addr.add _ _).block ≠ _; rw [add_block]; exact Nat.ne_of_lt (Nat.lt_of_lt_of_le (by have := World.block_lt_of_cell? _ _ hw378_5; first | rwa [add_block] at this | exact this) GW377.out)) | (dsimp only; exact Nat.ne_of_lt (Nat.lt_of_lt_of_le (by have := World.block_lt_of_cell? _ _ hw378_5; first | rwa [add_block] at this | exact this) GW377.out))) hHeld.2.2.2.2.2.2.2.2.2.2)⟩ (fun hHeld => ?_)
        clear hK K
        refine done_ (done_of HT_.out (by kernel_rfl)) ?_
        obtain ⟨hcz60_0, hcz60_1, hcz60_2, hcz60_3, hcz60_4, hfz60_0, hfz60_1, hfz60_2, hfz60_3, hfz60_4⟩ := bz5_ BK377
        try go_wp2_with (first | ((with_reducible refine gc_ 40 rfl ?_); refine gl_ 42 Try.func40 #[.agg #[.int .i64 t379, .int .i64 t380, .int .i64 t381]] ?_; (with_reducible refine (spec_VecTop.calls t379 t380 t381 t382 _ A39.out).mono ?_); rintro e w61 ⟨rfl, hb⟩; refine ⟨_, rfl, ?_⟩; replace HO376 := Aside0.mk (Kd.R_below (by (with_reducible repeat (first | apply Kd.R_alloc | apply Kd.R_drewN | apply Kd.R_drew)); exact (Kd.R_mono (Kd.R_far (p := ⟨gb377, 3, none⟩) (Kd.R_far (p := ⟨gb377, 2, none⟩) (Kd.R_far (p := ⟨gb377, 1, none⟩) (Kd.R_types HO376.out BK377.out (by decide)) (fun _ hk => by first | exact hk.2 | grind) (.int .i64 t379)) (fun _ hk => by first | exact hk.2 | grind) (.int .i64 t380)) (fun _ hk => by first | exact hk.2 | grind) (.int .i64 t381)) (fun _ h_ => h_.1))) hb); replace BK363 := bm_ BK363 hb; replace BK364 := bm_ BK364 hb; replace BK365 := bm_ BK365 hb; replace BK377 := Aside0.mk (blk_below (g := gb377) (o := .cells #[.int .i64 t370, .int .i64 t379, .int .i64 t380, .int .i64 t381, .slice Ao53 t374.length co53] 32 (0, 0)) (by (with_reducible repeat (first | refine blk_drewN ?_ _ | refine blk_drew ?_ | refine blk_alloc ?_ _)); refine blk_put (cs := #[.int .i64 t370, .int .i64 t379, .int .i64 t380, .int .i64 t373, .slice Ao53 t374.length co53]) ?_ 3 _ rfl; (with_reducible repeat (first | refine blk_drewN ?_ _ | refine blk_drew ?_ | refine blk_alloc ?_ _)); refine blk_put (cs := #[.int .i64 t370, .int .i64 t379, .int .i64 t372, .int .i64 t373, .slice Ao53 t374.length co53]) ?_ 2 _ rfl; (with_reducible repeat (first | refine blk_drewN ?_ _ | refine blk_drew ?_ | refine blk_alloc ?_ _)); refine blk_put (cs := #[.int .i64 t370, .int .i64 t371, .int .i64 t372, .int .i64 t373, .slice Ao53 t374.length co53]) ?_ 1 _ rfl; exact bk_ BK377) hb); replace HB := Aside0.mk (below_step (bf_ HB) hb); (try clear hb); (try clear hb2); (try clear hk); (try clear hi); have hnb62 := NB365_364.out; have hnc62 := NB364_365.out; obtain ⟨hcz63_0, hcz63_1, hcz63_2, hcz63_3, hcz63_4, hfz63_0, hfz63_1, hfz63_2, hfz63_3, hfz63_4⟩ := bz5_ BK365))
        refine bodyPost_ret (results_ct rfl _ _ gb365 32 #[.int .i64 0, .int .i64 0, .int .i64 0, .int .i64 0, .slice none 0 0] (0, 0) _ rfl (by (with_reducible repeat (first | refine blk_drewN ?_ _ | refine blk_drew ?_ | refine blk_alloc ?_ _)); refine blk_put (cs := #[.int .i64 0, .int .i64 0, .int .i64 0, .int .i64 0, .slice none 0 0]) ?_ 4 _ rfl; (with_reducible repeat (first | refine blk_drewN ?_ _ | refine blk_drew ?_ | refine blk_alloc ?_ _)); refine blk_put (cs := #[.int .i64 0, .int .i64 0, .int .i64 0, .int .i64 0, .slice none 0 0]) ?_ 3 _ rfl; (with_reducible repeat (first | refine blk_drewN ?_ _ | refine blk_drew ?_ | refine blk_alloc ?_ _)); refine blk_put (cs := #[.int .i64 0, .int .i64 0, .int .i64 0, .int .i64 0, .slice none 0 0]) ?_ 2 _ rfl; (with_reducible repeat (first | refine blk_drewN ?_ _ | refine blk_drew ?_ | refine blk_alloc ?_ _)); refine blk_put (cs := #[.int .i64 0, .int .i64 0, .int .i64 0, .int .i64 0, .slice none 0 0]) ?_ 1 _ rfl; (with_reducible repeat (first | refine blk_drewN ?_ _ | refine blk_drew ?_ | refine blk_alloc ?_ _)); refine blk_put (cs := #[.int .i64 0, .int .i64 0, .int .i64 0, .int .i64 0, .slice none 0 0]) ?_ 0 _ rfl; exact bk_ BK365) Try.underlying32 rfl (by kernel_rfl)) rfl ?_
        exact ⟨_, by first | rfl | (simp [errW_none, errW_some] <;> rfl) | (simp [*, errW_none, errW_some] <;> rfl), by first | exact Kd.R_nil _ _ _ _ _ | exact Kd.N_nil _ _ _ _ _ | exact Kd.V_nil _ _ _ _ _ | exact Kd.Q_nil _ _ _ _ _ | exact Kd.S_nil _ _ _ _ _, bf_ HB⟩
       ·rw [if_neg c40] at H
        have c40b0 : decide (100000000000 < t382) = false := decide_eq_false c40
        clear c40
        replace H := Option.bind_eq_some_iff.mp H
        obtain ⟨⟨t385, t386, t387, t388⟩, A640, H⟩ := H
        replace H : ((spec_Dovetail.f kj3 t385 t386 t387 a0_0).bind fun bt390 => (if t369 < (t374.length : Int) then ((some (t374.set (t369 : Int).toNat (⟨(rd_T38 t374 t369).f0, (rd_T38 t374 t369).f1, (rd_T38 t374 t369).f2, (⟨bt390.1, bt390.2.1, bt390.2.2⟩ : S29)⟩ : S38) : List (S38))).bind fun y393 => (some (t370, t379, t380, t381, (y393.set (t369 : Int).toNat (⟨(rd_T38 y393 t369).f0, (rd_T38 y393 t369).f1, a2, (⟨(rd_T38 y393 t369).f3.f0, (rd_T38 y393 t369).f3.f1, (rd_T38 y393 t369).f3.f2⟩ : S29)⟩ : S38)), 0))) else (none))) = some (r1, r2, r3, r4, r5, r6) := H
        have A64 := Aside0.mk A640
        clear A640
        replace H := Option.bind_eq_some_iff.mp H
        obtain ⟨⟨t390, t391, t392⟩, A650, H⟩ := H
        replace H : (if t369 < (t374.length : Int) then ((some (t374.set (t369 : Int).toNat (⟨(rd_T38 t374 t369).f0, (rd_T38 t374 t369).f1, (rd_T38 t374 t369).f2, (⟨t390, t391, t392⟩ : S29)⟩ : S38) : List (S38))).bind fun y393 => (some (t370, t379, t380, t381, (y393.set (t369 : Int).toNat (⟨(rd_T38 y393 t369).f0, (rd_T38 y393 t369).f1, a2, (⟨(rd_T38 y393 t369).f3.f0, (rd_T38 y393 t369).f3.f1, (rd_T38 y393 t369).f3.f2⟩ : S29)⟩ : S38)), 0))) else (none)) = some (r1, r2, r3, r4, r5, r6) := H
        have A65 := Aside0.mk A650
        clear A650
        by_cases c66 : t369 < (t374.length : Int)
        ·rw [if_pos c66] at H
         have c66b0 : decide (t369 < (t374.length : Int)) = true := decide_eq_true c66
         clear c66
         obtain ⟨y393, hy393⟩ : ∃ y_ : List (S38), y_ = (t374.set (t369 : Int).toNat (⟨(rd_T38 t374 t369).f0, (rd_T38 t374 t369).f1, (rd_T38 t374 t369).f2, (⟨t390, t391, t392⟩ : S29)⟩ : S38)) := ⟨_, rfl⟩
         replace H : (some (t370, t379, t380, t381, (y393.set (t369 : Int).toNat (⟨(rd_T38 y393 t369).f0, (rd_T38 y393 t369).f1, a2, (⟨(rd_T38 y393 t369).f3.f0, (rd_T38 y393 t369).f3.f1, (rd_T38 y393 t369).f3.f2⟩ : S29)⟩ : S38)), 0)) = some (r1, r2, r3, r4, r5, r6) := by first | (rw [hy393]; with_reducible exact H) | (have H2_ := (Option.bind_some _ _).symm.trans H; rw [hy393]; with_reducible exact H2_) | (have H2_ := (Option.bind_some _ _).symm.trans H; with_reducible exact H2_) | with_reducible exact H | (rw [hy393]; exact H) | exact H
         have Ny393 := Aside0.mk hy393
         clear hy393
         obtain ⟨y394, hy394⟩ : ∃ y_ : List (S38), y_ = (y393.set (t369 : Int).toNat (⟨(rd_T38 y393 t369).f0, (rd_T38 y393 t369).f1, a2, (⟨(rd_T38 y393 t369).f3.f0, (rd_T38 y393 t369).f3.f1, (rd_T38 y393 t369).f3.f2⟩ : S29)⟩ : S38)) := ⟨_, rfl⟩
         replace H : (some (t370, t379, t380, t381, y394, 0)) = some (r1, r2, r3, r4, r5, r6) := by first | (rw [hy394]; with_reducible exact H) | (have H2_ := (Option.bind_some _ _).symm.trans H; rw [hy394]; with_reducible exact H2_) | (have H2_ := (Option.bind_some _ _).symm.trans H; with_reducible exact H2_) | with_reducible exact H | (rw [hy394]; exact H) | exact H
         have Ny394 := Aside0.mk hy394
         clear hy394
         simp only [Option.some.injEq, Prod.mk.injEq] at H
         obtain ⟨rfl, rfl, rfl, rfl, rfl, rfl⟩ := H
         try go_wp2
         replace BK363 := Aside0.mk (blk_drew BK363.out); replace BK364 := Aside0.mk (blk_drew BK364.out); replace BK365 := Aside0.mk (blk_drew BK365.out); replace HB := Aside0.mk (below_drew1 HB.out)
         refine start_ (n := 5) (S := fun w' => cw_ w' gb363 0 (.int .i64 a0_0) ∧ cw_ w' gb363 1 (.int .i64 a0_1) ∧ cw_ w' gb363 2 (.int .i64 a0_2) ∧ cw_ w' gb363 3 (.int .i64 a0_3) ∧ cw_ w' gb363 4 (.slice A0_4 l0_4.length c0_4)) (ds := []) (bs 5 0) (by kernel_rfl) rfl rfl ⟨bt_ BK363 0, bt_ BK363 1, bt_ BK363 2, bt_ BK363 3, bt_ BK363 4⟩ (fun hHeld => ?_)
         generalize wc.drew = w69 at BK363 BK364 BK365 HB hHeld ⊢
         refine tk0_ 0 21 (bs 5 1) hHeld ?_
         refine tk0_ 1 22 (bs 5 2) hHeld ?_
         refine on0_ 2 (some 23) (bs 5 3) (fun K hK => ?_)
         refine gs_ Try.func20 #[.agg #[.int .i64 a0_0, .int .i64 a0_1, .int .i64 a0_2, .int .i64 a0_3, .slice A0_4 l0_4.length c0_4]] ?_
         with_reducible refine (spec_FairPick.calls kj3 a0_0 a0_1 a0_2 a0_3 _ _ l0_4 t368 _ ?side1 ?side2 A26.out).mono ?_
         (case side1 => repeat (first | exact (Kd.C_below HR0_4.out HB.out) | (with_reducible refine Kd.C_alloc ?_ _) | (with_reducible refine Kd.C_drewN ?_ _) | (with_reducible refine Kd.C_drew ?_)))
         (case side2 => exact HC0_4.out)
         rintro e w70 ⟨rfl, hb⟩
         refine ⟨_, rfl, ?_⟩
         replace BK363 := bb_ BK363 hb; replace BK364 := bb_ BK364 hb; replace BK365 := bb_ BK365 hb; replace HB := Aside0.mk (below_step (bf_ HB) hb); (try clear hb); (try clear hb2); (try clear hk); (try clear hi)
         refine hK.out _ _ ⟨bt_ BK363 0, bt_ BK363 1, bt_ BK363 2, bt_ BK363 3, bt_ BK363 4⟩ (fun hHeld => ?_)
         clear hK K
         refine norm_ (a' := ?_) ?_ ?_
         rotate_left
         ·show Act.put _ (some 23) _ = _
          simp only [Act.put, ls0_, ls1_, ls2_, i64_w, i32_w]
          rfl
         refine on0_ 3 (some 24) (bs 5 4) (fun K hK => ?_)
         refine gs_ Try.func57 #[.agg #[.int .i64 a0_0, .int .i64 a0_1, .int .i64 a0_2, .int .i64 a0_3, .slice A0_4 l0_4.length c0_4], .int .i64 t368] ?_
         with_reducible refine (spec_l18At.calls kj3 a0_0 a0_1 a0_2 a0_3 _ _ l0_4 t368 t369 _ ?side1 ?side2 A27.out).mono ?_
         (case side1 => repeat (first | exact (Kd.C_below HR0_4.out HB.out) | (with_reducible refine Kd.C_alloc ?_ _) | (with_reducible refine Kd.C_drewN ?_ _) | (with_reducible refine Kd.C_drew ?_)))
         (case side2 => exact HC0_4.out)
         rintro e w71 ⟨rfl, hb⟩
         refine ⟨_, rfl, ?_⟩
         replace BK363 := bb_ BK363 hb; replace BK364 := bb_ BK364 hb; replace BK365 := bb_ BK365 hb; replace HB := Aside0.mk (below_step (bf_ HB) hb); (try clear hb); (try clear hb2); (try clear hk); (try clear hi)
         refine hK.out _ _ ⟨bt_ BK363 0, bt_ BK363 1, bt_ BK363 2, bt_ BK363 3, bt_ BK363 4⟩ (fun hHeld => ?_)
         clear hK K
         refine norm_ (a' := ?_) ?_ ?_
         rotate_left
         ·show Act.put _ (some 24) _ = _
          simp only [Act.put, ls0_, ls1_, ls2_, i64_w, i32_w]
          rfl
         refine ps0_ 4 8 (bs 5 5) ?_
         refine done_ (by kernel_rfl) ?_
         have hnb72 := NB363_364.out; have hnc72 := NB364_363.out; have hnb73 := NB363_365.out; have hnc73 := NB365_363.out; obtain ⟨hcz74_0, hcz74_1, hcz74_2, hcz74_3, hcz74_4, hfz74_0, hfz74_1, hfz74_2, hfz74_3, hfz74_4⟩ := bz5_ BK363
         try go_wp2_with (first | ((with_reducible refine gc_ 61 rfl ?_); refine gl_ 29 Try.func61 #[.agg #[.int .i64 a0_0, .int .i64 a0_1, .int .i64 a0_2, .int .i64 a0_3, .slice A0_4 l0_4.length c0_4]] ?_; (with_reducible refine (spec_l18Copy.calls a0_0 a0_1 a0_2 a0_3 _ _ l0_4 t370 t371 t372 t373 t374 _ ?side1 ?side2 A35.out).mono ?_); (case side1 => repeat (first | exact (Kd.C_below HR0_4.out HB.out) | (with_reducible refine Kd.C_alloc ?_ _) | (with_reducible refine Kd.C_drewN ?_ _) | (with_reducible refine Kd.C_drew ?_))); (case side2 => exact HC0_4.out); rintro e w75 ⟨v375, rfl, ho0, hb⟩; refine ⟨_, rfl, ?_⟩; have HO376 := Aside0.mk (Kd.R_lower ho0 (below_size (bf_ HB))); replace BK363 := bb_ BK363 hb; replace BK364 := bb_ BK364 hb; replace BK365 := bb_ BK365 hb; replace HB := Aside0.mk (below_step (bf_ HB) hb); (try clear hb); (try clear hb2); (try clear hk); (try clear hi); (try clear ho0)) | ((with_reducible refine gd_ 9 rfl ?_); refine bv_ 9 #[.int .i64 0, .int .i64 0, .int .i64 0, .int .i64 0, .slice none 0 0] 32 ?_; intro gb377 hg w76 hbox hb; replace HO376 := Aside0.mk (Kd.R_below (kr_ HO376) hb); have BK377 := Aside0.mk (hbox); have GW377 := gw_ HB hg; have GE377 := gw_ HB hg; replace HB := Aside0.mk (below_step (bf_ HB) hb); have NB363_377 := nl_ BK363 hg; have NB377_363 := ng_ BK363 hg; replace BK363 := bb_ BK363 hb; have NB364_377 := nl_ BK364 hg; have NB377_364 := ng_ BK364 hg; replace BK364 := bb_ BK364 hb; have NB365_377 := nl_ BK365 hg; have NB377_365 := ng_ BK365 hg; replace BK365 := bb_ BK365 hb; clear hb hbox hg; have hnb77 := NB377_363.out; have hnc77 := NB363_377.out; have hnb78 := NB377_364.out; have hnc78 := NB364_377.out; have hnb79 := NB377_365.out; have hnc79 := NB365_377.out; obtain ⟨hcz80_0, hcz80_1, hcz80_2, hcz80_3, hcz80_4, hfz80_0, hfz80_1, hfz80_2, hfz80_3, hfz80_4⟩ := bz5_ BK377; obtain ⟨Ao81, co81, eo81⟩ := Kd.R_slice HO376.out; subst eo81))
         generalize hW_ : (((((w76.setCell ⟨gb377, 0, none⟩ (.int .i64 t370)).setCell ⟨gb377, 1, none⟩ (.int .i64 t371)).setCell ⟨gb377, 2, none⟩ (.int .i64 t372)).setCell ⟨gb377, 3, none⟩ (.int .i64 t373)).setCell ⟨gb377, 4, none⟩ (.slice Ao81 t374.length co81)) = w82
         replace HO376 : Aside0 (Kd.R k38 38 w82 w.heap.size (fun _ => True) (.slice Ao81 t374.length co81) t374) := ⟨by cases hW_; (with_reducible repeat (first | apply Kd.R_alloc | apply Kd.R_drewN | apply Kd.R_drew)); exact Kd.R_mono (Kd.R_far (p := ⟨gb377, 4, none⟩) (Kd.R_far (p := ⟨gb377, 3, none⟩) (Kd.R_far (p := ⟨gb377, 2, none⟩) (Kd.R_far (p := ⟨gb377, 1, none⟩) (Kd.R_far (p := ⟨gb377, 0, none⟩) (Kd.R_types HO376.out BK377.out (by decide)) (fun _ hk => by first | exact hk.2 | grind) (.int .i64 t370)) (fun _ hk => by first | exact hk.2 | grind) (.int .i64 t371)) (fun _ hk => by first | exact hk.2 | grind) (.int .i64 t372)) (fun _ hk => by first | exact hk.2 | grind) (.int .i64 t373)) (fun _ hk => by first | exact hk.2 | grind) (.slice Ao81 t374.length co81)) (fun _ hk => by first | exact trivial | grind)⟩
         replace BK363 := fc5_ hW_ BK363 NB363_377
         replace BK364 := fc5_ hW_ BK364 NB364_377
         replace BK365 := fc5_ hW_ BK365 NB365_377
         replace BK377 : Aside0 (w82.heap[gb377]? = some (.cells #[.int .i64 t370, .int .i64 t371, .int .i64 t372, .int .i64 t373, .slice Ao81 t374.length co81] 32 (0, 0))) := pc5_ hW_ BK377
         replace HB : Aside0 (Below w.heap.size w w82) := ⟨by cases hW_; exact bf_ HB⟩
         clear hW_; replace HO376 := Aside0.mk (Kd.R_drew HO376.out); replace BK363 := Aside0.mk (blk_drew BK363.out); replace BK364 := Aside0.mk (blk_drew BK364.out); replace BK365 := Aside0.mk (blk_drew BK365.out); replace BK377 := Aside0.mk (blk_drew BK377.out); replace HB := Aside0.mk (below_drew1 HB.out)
         have p378 : 0 ≤ (t369 : Int) := od_
         have q378 : t369 < (l0_4.length : Int) := od_
         obtain ⟨ad378, e378, hx378_0, hx378_1, hx378_2, hx378_3, hx378_4, hx378_5⟩ := at_T38 HR0_4.out t369 p378 q378
         have hw378_5 := hx378_5; have hw378_4 := hx378_4; have hw378_3 := hx378_3; have hw378_2 := hx378_2; have hw378_1 := hx378_1; have hw378_0 := hx378_0
         cases e378
         replace hx378_0 := hb_ HB hx378_0
         replace hx378_1 := hb_ HB hx378_1
         replace hx378_2 := hb_ HB hx378_2
         replace hx378_3 := hb_ HB hx378_3
         replace hx378_4 := hb_ HB hx378_4
         replace hx378_5 := hb_ HB hx378_5
         replace p378 := eq_true p378
         replace q378 := eq_true q378
         refine start_ (n := 11) (S := fun w' => cw_ w' gb363 0 (.int .i64 a0_0) ∧ cw_ w' gb363 1 (.int .i64 a0_1) ∧ cw_ w' gb363 2 (.int .i64 a0_2) ∧ cw_ w' gb363 3 (.int .i64 a0_3) ∧ cw_ w' gb363 4 (.slice (some ad378) l0_4.length c0_4) ∧ w'.cell? (ad378.add ((t369).toNat * 6)) = some (.int .i64 ((rd_T38 l0_4 t369).f0)) ∧ w'.cell? ⟨(ad378.add ((t369).toNat * 6)).block, (ad378.add ((t369).toNat * 6)).off + 1, none⟩ = some (.int .i64 ((rd_T38 l0_4 t369).f1)) ∧ w'.cell? ⟨(ad378.add ((t369).toNat * 6)).block, (ad378.add ((t369).toNat * 6)).off + 2, none⟩ = some (.bool ((rd_T38 l0_4 t369).f2)) ∧ w'.cell? ⟨(ad378.add ((t369).toNat * 6)).block, (ad378.add ((t369).toNat * 6)).off + 3, none⟩ = some (.int .i64 ((rd_T38 l0_4 t369).f3.f0)) ∧ w'.cell? ⟨(ad378.add ((t369).toNat * 6)).block, (ad378.add ((t369).toNat * 6)).off + 4, none⟩ = some (.int .i64 ((rd_T38 l0_4 t369).f3.f1)) ∧ w'.cell? ⟨(ad378.add ((t369).toNat * 6)).block, (ad378.add ((t369).toNat * 6)).off + 5, none⟩ = some (.int .i64 ((rd_T38 l0_4 t369).f3.f2))) (ds := []) (bs 11 0) (by kernel_rfl) rfl rfl ⟨bt_ BK363 0, bt_ BK363 1, bt_ BK363 2, bt_ BK363 3, bt_ BK363 4, (hd_ HB hw378_0), (hd_ HB hw378_1), (hd_ HB hw378_2), (hd_ HB hw378_3), (hd_ HB hw378_4), (hd_ HB hw378_5)⟩ (fun hHeld => ?_); refine with_tabW spec_FairServe.tab7 spec_FairServe.bits7 (fun HT_ HW_ => ?_)
         generalize w82.drew = w83 at HO376 BK363 BK364 BK365 BK377 HB hx378_0 hx378_1 hx378_2 hx378_3 hx378_4 hx378_5 hHeld ⊢
         refine ps_ 0 30 (bs 11 1) HT_ ?_
         refine ps_ 2 32 (bm 11 5) HT_ ?_
         refine ps_ 4 34 (bm 11 21) HT_ ?_
         refine tk_ 1 31 (bm 11 23) HT_ HW_ hHeld ?_
         refine tk_ 3 33 (bs 11 5) HT_ HW_ hHeld ?_
         refine ps_ 5 35 (bs 11 6) HT_ ?_
         refine ps_ 6 36 (bs 11 7) HT_ ?_
         refine tk_ 7 37 (bs 11 8) HT_ HW_ hHeld ?_
         refine on_ 8 (some 38) (bs 11 9) HT_ (fun K hK => ?_)
         refine gs_ Try.func59 #[.agg #[.int .i64 a0_1, .int .i64 a0_2, .int .i64 a0_3], .agg #[.int .i64 ((rd_T38 l0_4 t369).f3.f0), .int .i64 ((rd_T38 l0_4 t369).f3.f1), .int .i64 ((rd_T38 l0_4 t369).f3.f2)]] ?_
         with_reducible refine (spec_VecMost.calls a0_1 a0_2 a0_3 ((rd_T38 l0_4 t369).f3.f0) ((rd_T38 l0_4 t369).f3.f1) ((rd_T38 l0_4 t369).f3.f2) t379 t380 t381 _ A38.out).mono ?_
         rintro e w84 ⟨rfl, hb⟩
         refine ⟨_, rfl, ?_⟩
         replace HO376 := Aside0.mk (Kd.R_below (kr_ HO376) hb); replace BK363 := bb_ BK363 hb; replace BK364 := bb_ BK364 hb; replace BK365 := bb_ BK365 hb; replace BK377 := bb_ BK377 hb; replace HB := Aside0.mk (below_step (bf_ HB) hb); (try clear hb); (try clear hb2); (try clear hk); (try clear hi)
         refine hK.out _ _ ⟨bt_ BK363 0, bt_ BK363 1, bt_ BK363 2, bt_ BK363 3, bt_ BK363 4, (hd_ HB hw378_0), (hd_ HB hw378_1), (hd_ HB hw378_2), (hd_ HB hw378_3), (hd_ HB hw378_4), (hd_ HB hw378_5)⟩ (fun hHeld => ?_)
         clear hK K
         refine norm_ (a' := ?_) ?_ ?_
         rotate_left
         ·show Act.put _ (some 38) _ = _
          simp only [Act.put, ls0_, ls1_, ls2_, i64_w, i32_w]
          rfl
         refine ps_ 9 39 (bs 11 10) HT_ ?_
         refine on_ 10 none (bs 11 11) HT_ (fun K hK => ?_)
         have hs85 := bc_ BK377 1 (.int .i64 t371) rfl; have hfs85 := blk_frozen BK377.out 1; have hns85_0 := NB363_377.out; have hns85_1 := NB364_377.out; have hns85_2 := NB365_377.out; have hms85_0 := NB377_363.out; have hms85_1 := NB377_364.out; have hms85_2 := NB377_365.out; have hs86 := bc_ BK377 2 (.int .i64 t372) rfl; have hfs86 := blk_frozen BK377.out 2; have hns86_0 := NB363_377.out; have hns86_1 := NB364_377.out; have hns86_2 := NB365_377.out; have hms86_0 := NB377_363.out; have hms86_1 := NB377_364.out; have hms86_2 := NB377_365.out; have hs87 := bc_ BK377 3 (.int .i64 t373) rfl; have hfs87 := blk_frozen BK377.out 3; have hns87_0 := NB363_377.out; have hns87_1 := NB364_377.out; have hns87_2 := NB365_377.out; have hms87_0 := NB377_363.out; have hms87_1 := NB377_364.out; have hms87_2 := NB377_365.out
         refine skip_ (w1 := ?_) (by rfl) rfl ?_ ?_
         rotate_left
         ·go_simp
          rfl
         refine hK.out _ _ ⟨(cf3_ NB363_377.out hHeld.1), (cf3_ NB363_377.out hHeld.2.1), (cf3_ NB363_377.out hHeld.2.2.1), (cf3_ NB363_377.out hHeld.2.2.2.1), (cf3_ NB363_377.out hHeld.2.2.2.2.1), (cf3_ (by first | exact Nat.ne_of_lt (Nat.lt_of_lt_of_le (by have := World.block_lt_of_cell? _ _ hw378_0; first | rwa [add_block] at this | exact this) GW377.out) | (rw [add_block]; exact Nat.ne_of_lt (Nat.lt_of_lt_of_le (by have := World.block_lt_of_cell? _ _ hw378_0; first | rwa [add_block] at this | exact this) GW377.out)) | (show (Addr.add _ _).block ≠ _; rw [add_block]; exact Nat.ne_of_lt (Nat.lt_of_lt_of_le (by have := World.block_lt_of_cell? _ _ hw378_0; first | rwa [add_block] at this | exact this) GW377.out)) | (dsimp only; exact Nat.ne_of_lt (Nat.lt_of_lt_of_le (by have := World.block_lt_of_cell? _ _ hw378_0; first | rwa [add_block] at this | exact this) GW377.out))) hHeld.2.2.2.2.2.1), (cf3_ (by first | exact Nat.ne_of_lt (Nat.lt_of_lt_of_le (by have := World.block_lt_of_cell? _ _ hw378_1; first | rwa [add_block] at this | exact this) GW377.out) | (rw [add_block]; exact Nat.ne_of_lt (Nat.lt_of_lt_of_le (by have := World.block_lt_of_cell? _ _ hw378_1; first | rwa [add_block] at this | exact this) GW377.out)) | (show (Addr.add _ _).block ≠ _; rw [add_block]; exact Nat.ne_of_lt (Nat.lt_of_lt_of_le (by have := World.block_lt_of_cell? _ _ hw378_1; first | rwa [add_block] at this | exact this) GW377.out)) | (dsimp only; exact Nat.ne_of_lt (Nat.lt_of_lt_of_le (by have := World.block_lt_of_cell? _ _ hw378_1; first | rwa [add_block] at this | exact this) GW377.out))) hHeld.2.2.2.2.2.2.1), (cf3_ (by first | exact Nat.ne_of_lt (Nat.lt_of_lt_of_le (by have := World.block_lt_of_cell? _ _ hw378_2; first | rwa [add_block] at this | exact this) GW377.out) | (rw [add_block]; exact Nat.ne_of_lt (Nat.lt_of_lt_of_le (by have := World.block_lt_of_cell? _ _ hw378_2; first | rwa [add_block] at this | exact this) GW377.out)) | (show (Addr.add _ _).block ≠ _; rw [add_block]; exact Nat.ne_of_lt (Nat.lt_of_lt_of_le (by have := World.block_lt_of_cell? _ _ hw378_2; first | rwa [add_block] at this | exact this) GW377.out)) | (dsimp only; exact Nat.ne_of_lt (Nat.lt_of_lt_of_le (by have := World.block_lt_of_cell? _ _ hw378_2; first | rwa [add_block] at this | exact this) GW377.out))) hHeld.2.2.2.2.2.2.2.1), (cf3_ (by first | exact Nat.ne_of_lt (Nat.lt_of_lt_of_le (by have := World.block_lt_of_cell? _ _ hw378_3; first | rwa [add_block] at this | exact this) GW377.out) | (rw [add_block]; exact Nat.ne_of_lt (Nat.lt_of_lt_of_le (by have := World.block_lt_of_cell? _ _ hw378_3; first | rwa [add_block] at this | exact this) GW377.out)) | (show (Addr.add _ _).block ≠ _; rw [add_block]; exact Nat.ne_of_lt (Nat.lt_of_lt_of_le (by have := World.block_lt_of_cell? _ _ hw378_3; first | rwa [add_block] at this | exact this) GW377.out)) | (dsimp only; exact Nat.ne_of_lt (Nat.lt_of_lt_of_le (by have := World.block_lt_of_cell? _ _ hw378_3; first | rwa [add_block] at this | exact this) GW377.out))) hHeld.2.2.2.2.2.2.2.2.1), (cf3_ (by first | exact Nat.ne_of_lt (Nat.lt_of_lt_of_le (by have := World.block_lt_of_cell? _ _ hw378_4; first | rwa [add_block] at this | exact this) GW377.out) | (rw [add_block]; exact Nat.ne_of_lt (Nat.lt_of_lt_of_le (by have := World.block_lt_of_cell? _ _ hw378_4; first | rwa [add_block] at this | exact this) GW377.out)) | (show (Addr.add _ _).block ≠ _; rw [add_block]; exact Nat.ne_of_lt (Nat.lt_of_lt_of_le (by have := World.block_lt_of_cell? _ _ hw378_4; first | rwa [add_block] at this | exact this) GW377.out)) | (dsimp only; exact Nat.ne_of_lt (Nat.lt_of_lt_of_le (by have := World.block_lt_of_cell? _ _ hw378_4; first | rwa [add_block] at this | exact this) GW377.out))) hHeld.2.2.2.2.2.2.2.2.2.1), (cf3_ (by first | exact Nat.ne_of_lt (Nat.lt_of_lt_of_le (by have := World.block_lt_of_cell? _ _ hw378_5; first | rwa [add_block] at this | exact this) GW377.out) | (rw [add_block]; exact Nat.ne_of_lt (Nat.lt_of_lt_of_le (by have := World.block_lt_of_cell? _ _ hw378_5; first | rwa [add_block] at this | exact this) GW377.out)) | (show (Addr.add _ _).block ≠ _; rw [add_block]; exact Nat.ne_of_lt (Nat.lt_of_lt_of_le (by have := World.block_lt_of_cell? _ _ hw378_5; first | rwa [add_block] at this | exact this) GW377.out)) | (dsimp only; exact Nat.ne_of_lt (Nat.lt_of_lt_of_le (by have := World.block_lt_of_cell? _ _ hw378_5; first | rwa [add_block] at this | exact this) GW377.out))) hHeld.2.2.2.2.2.2.2.2.2.2)⟩ (fun hHeld => ?_)
         clear hK K
         refine done_ (done_of HT_.out (by kernel_rfl)) ?_
         obtain ⟨hcz88_0, hcz88_1, hcz88_2, hcz88_3, hcz88_4, hfz88_0, hfz88_1, hfz88_2, hfz88_3, hfz88_4⟩ := bz5_ BK377
         try go_wp2_with (first | ((with_reducible refine gc_ 40 rfl ?_); refine gl_ 42 Try.func40 #[.agg #[.int .i64 t379, .int .i64 t380, .int .i64 t381]] ?_; (with_reducible refine (spec_VecTop.calls t379 t380 t381 t382 _ A39.out).mono ?_); rintro e w89 ⟨rfl, hb⟩; refine ⟨_, rfl, ?_⟩; replace HO376 := Aside0.mk (Kd.R_below (by (with_reducible repeat (first | apply Kd.R_alloc | apply Kd.R_drewN | apply Kd.R_drew)); exact (Kd.R_mono (Kd.R_far (p := ⟨gb377, 3, none⟩) (Kd.R_far (p := ⟨gb377, 2, none⟩) (Kd.R_far (p := ⟨gb377, 1, none⟩) (Kd.R_types HO376.out BK377.out (by decide)) (fun _ hk => by first | exact hk.2 | grind) (.int .i64 t379)) (fun _ hk => by first | exact hk.2 | grind) (.int .i64 t380)) (fun _ hk => by first | exact hk.2 | grind) (.int .i64 t381)) (fun _ h_ => h_.1))) hb); replace BK363 := bm_ BK363 hb; replace BK364 := bm_ BK364 hb; replace BK365 := bm_ BK365 hb; replace BK377 := Aside0.mk (blk_below (g := gb377) (o := .cells #[.int .i64 t370, .int .i64 t379, .int .i64 t380, .int .i64 t381, .slice Ao81 t374.length co81] 32 (0, 0)) (by (with_reducible repeat (first | refine blk_drewN ?_ _ | refine blk_drew ?_ | refine blk_alloc ?_ _)); refine blk_put (cs := #[.int .i64 t370, .int .i64 t379, .int .i64 t380, .int .i64 t373, .slice Ao81 t374.length co81]) ?_ 3 _ rfl; (with_reducible repeat (first | refine blk_drewN ?_ _ | refine blk_drew ?_ | refine blk_alloc ?_ _)); refine blk_put (cs := #[.int .i64 t370, .int .i64 t379, .int .i64 t372, .int .i64 t373, .slice Ao81 t374.length co81]) ?_ 2 _ rfl; (with_reducible repeat (first | refine blk_drewN ?_ _ | refine blk_drew ?_ | refine blk_alloc ?_ _)); refine blk_put (cs := #[.int .i64 t370, .int .i64 t371, .int .i64 t372, .int .i64 t373, .slice Ao81 t374.length co81]) ?_ 1 _ rfl; exact bk_ BK377) hb); replace HB := Aside0.mk (below_step (bf_ HB) hb); (try clear hb); (try clear hb2); (try clear hk); (try clear hi)))
         replace HO376 := Aside0.mk (Kd.R_drew HO376.out); replace BK363 := Aside0.mk (blk_drew BK363.out); replace BK364 := Aside0.mk (blk_drew BK364.out); replace BK365 := Aside0.mk (blk_drew BK365.out); replace BK377 := Aside0.mk (blk_drew BK377.out); replace HB := Aside0.mk (below_drew1 HB.out)
         have p383 : 0 ≤ (t369 : Int) := od_
         have q383 : t369 < (l0_4.length : Int) := od_
         obtain ⟨ad383, e383, hx383_0, hx383_1, hx383_2, hx383_3, hx383_4, hx383_5⟩ := at_T38 HR0_4.out t369 p383 q383
         have hw383_5 := hx383_5; have hw383_4 := hx383_4; have hw383_3 := hx383_3; have hw383_2 := hx383_2; have hw383_1 := hx383_1; have hw383_0 := hx383_0
         obtain rfl : ad378 = ad383 := (by injection e383)
         replace hx383_0 := hb_ HB hx383_0
         replace hx383_1 := hb_ HB hx383_1
         replace hx383_2 := hb_ HB hx383_2
         replace hx383_3 := hb_ HB hx383_3
         replace hx383_4 := hb_ HB hx383_4
         replace hx383_5 := hb_ HB hx383_5
         replace p383 := eq_true p383
         replace q383 := eq_true q383
         have p384 : 0 ≤ (t369 : Int) := od_
         have q384 : t369 < (l0_4.length : Int) := od_
         obtain ⟨ad384, e384, hx384_0, hx384_1, hx384_2, hx384_3, hx384_4, hx384_5⟩ := at_T38 HR0_4.out t369 p384 q384
         have hw384_5 := hx384_5; have hw384_4 := hx384_4; have hw384_3 := hx384_3; have hw384_2 := hx384_2; have hw384_1 := hx384_1; have hw384_0 := hx384_0
         obtain rfl : ad378 = ad384 := (by injection e384)
         replace hx384_0 := hb_ HB hx384_0
         replace hx384_1 := hb_ HB hx384_1
         replace hx384_2 := hb_ HB hx384_2
         replace hx384_3 := hb_ HB hx384_3
         replace hx384_4 := hb_ HB hx384_4
         replace hx384_5 := hb_ HB hx384_5
         replace p384 := eq_true p384
         replace q384 := eq_true q384
         refine start_ (n := 20) (S := fun w' => cw_ w' gb363 0 (.int .i64 a0_0) ∧ cw_ w' gb363 1 (.int .i64 a0_1) ∧ cw_ w' gb363 2 (.int .i64 a0_2) ∧ cw_ w' gb363 3 (.int .i64 a0_3) ∧ cw_ w' gb363 4 (.slice (some ad378) l0_4.length c0_4) ∧ cw_ w' gb364 0 (.int .i64 a1_0) ∧ cw_ w' gb364 1 (.int .i64 a1_1) ∧ cw_ w' gb364 2 (.int .i64 a1_2) ∧ w'.cell? (ad378.add ((t369).toNat * 6)) = some (.int .i64 ((rd_T38 l0_4 t369).f0)) ∧ w'.cell? ⟨(ad378.add ((t369).toNat * 6)).block, (ad378.add ((t369).toNat * 6)).off + 1, none⟩ = some (.int .i64 ((rd_T38 l0_4 t369).f1)) ∧ w'.cell? ⟨(ad378.add ((t369).toNat * 6)).block, (ad378.add ((t369).toNat * 6)).off + 2, none⟩ = some (.bool ((rd_T38 l0_4 t369).f2)) ∧ w'.cell? ⟨(ad378.add ((t369).toNat * 6)).block, (ad378.add ((t369).toNat * 6)).off + 3, none⟩ = some (.int .i64 ((rd_T38 l0_4 t369).f3.f0)) ∧ w'.cell? ⟨(ad378.add ((t369).toNat * 6)).block, (ad378.add ((t369).toNat * 6)).off + 4, none⟩ = some (.int .i64 ((rd_T38 l0_4 t369).f3.f1)) ∧ w'.cell? ⟨(ad378.add ((t369).toNat * 6)).block, (ad378.add ((t369).toNat * 6)).off + 5, none⟩ = some (.int .i64 ((rd_T38 l0_4 t369).f3.f2)) ∧ w'.cell? (ad378.add ((t369).toNat * 6)) = some (.int .i64 ((rd_T38 l0_4 t369).f0)) ∧ w'.cell? ⟨(ad378.add ((t369).toNat * 6)).block, (ad378.add ((t369).toNat * 6)).off + 1, none⟩ = some (.int .i64 ((rd_T38 l0_4 t369).f1)) ∧ w'.cell? ⟨(ad378.add ((t369).toNat * 6)).block, (ad378.add ((t369).toNat * 6)).off + 2, none⟩ = some (.bool ((rd_T38 l0_4 t369).f2)) ∧ w'.cell? ⟨(ad378.add ((t369).toNat * 6)).block, (ad378.add ((t369).toNat * 6)).off + 3, none⟩ = some (.int .i64 ((rd_T38 l0_4 t369).f3.f0)) ∧ w'.cell? ⟨(ad378.add ((t369).toNat * 6)).block, (ad378.add ((t369).toNat * 6)).off + 4, none⟩ = some (.int .i64 ((rd_T38 l0_4 t369).f3.f1)) ∧ w'.cell? ⟨(ad378.add ((t369).toNat * 6)).block, (ad378.add ((t369).toNat * 6)).off + 5, none⟩ = some (.int .i64 ((rd_T38 l0_4 t369).f3.f2))) (ds := []) (bs 20 0) (by kernel_rfl) rfl rfl ⟨bt_ BK363 0, bt_ BK363 1, bt_ BK363 2, bt_ BK363 3, bt_ BK363 4, bt_ BK364 0, bt_ BK364 1, bt_ BK364 2, (hd_ HB hw383_0), (hd_ HB hw383_1), (hd_ HB hw383_2), (hd_ HB hw383_3), (hd_ HB hw383_4), (hd_ HB hw383_5), (hd_ HB hw384_0), (hd_ HB hw384_1), (hd_ HB hw384_2), (hd_ HB hw384_3), (hd_ HB hw384_4), (hd_ HB hw384_5)⟩ (fun hHeld => ?_); refine with_tabW spec_FairServe.tab10 spec_FairServe.bits10 (fun HT_ HW_ => ?_)
         generalize w89.drew = w90 at HO376 BK363 BK364 BK365 BK377 HB hx383_0 hx383_1 hx383_2 hx383_3 hx383_4 hx383_5 hx384_0 hx384_1 hx384_2 hx384_3 hx384_4 hx384_5 hHeld ⊢
         refine ps_ 0 46 (bs 20 1) HT_ ?_
         refine ps_ 2 48 (bm 20 5) HT_ ?_
         refine ps_ 7 53 (bm 20 133) HT_ ?_
         refine ps_ 9 55 (bm 20 645) HT_ ?_
         refine tk_ 1 47 (bm 20 647) HT_ HW_ hHeld ?_
         refine ps_ 3 49 (bm 20 655) HT_ ?_
         refine ps_ 4 50 (bm 20 671) HT_ ?_
         refine tk_ 5 51 (bm 20 703) HT_ HW_ hHeld ?_
         refine tk_ 6 52 (bm 20 767) HT_ HW_ hHeld ?_
         refine tk_ 8 54 (bs 20 10) HT_ HW_ hHeld ?_
         refine ps_ 10 56 (bs 20 11) HT_ ?_
         refine ps_ 11 57 (bs 20 12) HT_ ?_
         refine tk_ 12 58 (bs 20 13) HT_ HW_ hHeld ?_
         refine join_ (σ := Nat) 2 (bs 20 18) (fun s_ => [(59, .tuple #[.agg #[.int .i64 t385, .int .i64 t386, .int .i64 t387], .bool t388]), (10, .pointer (some ⟨s_, 0, none⟩)), (45, .tuple #[.agg #[.int .i64 t385, .int .i64 t386, .int .i64 t387], .bool t388]), (60, .agg #[.int .i64 t385, .int .i64 t386, .int .i64 t387]), (61, .bool t388)]) (fun s_ w' => (w'.cell? ⟨gb363, 0, none⟩ = some (.int .i64 a0_0) ∧ w'.cell? ⟨gb363, 1, none⟩ = some (.int .i64 a0_1) ∧ w'.cell? ⟨gb363, 2, none⟩ = some (.int .i64 a0_2) ∧ w'.cell? ⟨gb363, 3, none⟩ = some (.int .i64 a0_3) ∧ w'.cell? ⟨gb363, 4, none⟩ = some (.slice (some ad378) l0_4.length c0_4) ∧ w'.cell? ⟨gb364, 0, none⟩ = some (.int .i64 a1_0) ∧ w'.cell? ⟨gb364, 1, none⟩ = some (.int .i64 a1_1) ∧ w'.cell? ⟨gb364, 2, none⟩ = some (.int .i64 a1_2) ∧ w'.cell? (ad378.add ((t369).toNat * 6)) = some (.int .i64 ((rd_T38 l0_4 t369).f0)) ∧ w'.cell? ⟨(ad378.add ((t369).toNat * 6)).block, (ad378.add ((t369).toNat * 6)).off + 1, none⟩ = some (.int .i64 ((rd_T38 l0_4 t369).f1)) ∧ w'.cell? ⟨(ad378.add ((t369).toNat * 6)).block, (ad378.add ((t369).toNat * 6)).off + 2, none⟩ = some (.bool ((rd_T38 l0_4 t369).f2)) ∧ w'.cell? ⟨(ad378.add ((t369).toNat * 6)).block, (ad378.add ((t369).toNat * 6)).off + 3, none⟩ = some (.int .i64 ((rd_T38 l0_4 t369).f3.f0)) ∧ w'.cell? ⟨(ad378.add ((t369).toNat * 6)).block, (ad378.add ((t369).toNat * 6)).off + 4, none⟩ = some (.int .i64 ((rd_T38 l0_4 t369).f3.f1)) ∧ w'.cell? ⟨(ad378.add ((t369).toNat * 6)).block, (ad378.add ((t369).toNat * 6)).off + 5, none⟩ = some (.int .i64 ((rd_T38 l0_4 t369).f3.f2)) ∧ w'.cell? (ad378.add ((t369).toNat * 6)) = some (.int .i64 ((rd_T38 l0_4 t369).f0)) ∧ w'.cell? ⟨(ad378.add ((t369).toNat * 6)).block, (ad378.add ((t369).toNat * 6)).off + 1, none⟩ = some (.int .i64 ((rd_T38 l0_4 t369).f1)) ∧ w'.cell? ⟨(ad378.add ((t369).toNat * 6)).block, (ad378.add ((t369).toNat * 6)).off + 2, none⟩ = some (.bool ((rd_T38 l0_4 t369).f2)) ∧ w'.cell? ⟨(ad378.add ((t369).toNat * 6)).block, (ad378.add ((t369).toNat * 6)).off + 3, none⟩ = some (.int .i64 ((rd_T38 l0_4 t369).f3.f0)) ∧ w'.cell? ⟨(ad378.add ((t369).toNat * 6)).block, (ad378.add ((t369).toNat * 6)).off + 4, none⟩ = some (.int .i64 ((rd_T38 l0_4 t369).f3.f1)) ∧ w'.cell? ⟨(ad378.add ((t369).toNat * 6)).block, (ad378.add ((t369).toNat * 6)).off + 5, none⟩ = some (.int .i64 ((rd_T38 l0_4 t369).f3.f2))) ∧ (Kd.R k38 38 w' w.heap.size (fun _ => True) (.slice Ao81 t374.length co81) t374) ∧ (w'.heap[gb363]? = some (.cells #[.int .i64 a0_0, .int .i64 a0_1, .int .i64 a0_2, .int .i64 a0_3, .slice (some ad378) l0_4.length c0_4] 32 (0, 0))) ∧ (w'.heap[gb364]? = some (.cells #[.int .i64 a1_0, .int .i64 a1_1, .int .i64 a1_2] 29 (0, 0))) ∧ (w'.heap[gb365]? = some (.cells #[.int .i64 0, .int .i64 0, .int .i64 0, .int .i64 0, .slice none 0 0] 32 (0, 0))) ∧ (w'.heap[gb377]? = some (.cells #[.int .i64 t370, .int .i64 t379, .int .i64 t380, .int .i64 t381, .slice Ao81 t374.length co81] 32 (0, 0))) ∧ (w'.heap[s_]? = some (.cells #[.int .i64 0, .int .i64 0, .int .i64 0] 29 (0, 0))) ∧ (w.heap.size ≤ s_) ∧ (w.heap.size ≤ s_) ∧ (gb363 ≠ s_) ∧ (s_ ≠ gb363) ∧ (gb364 ≠ s_) ∧ (s_ ≠ gb364) ∧ (gb365 ≠ s_) ∧ (s_ ≠ gb365) ∧ (gb377 ≠ s_) ∧ (s_ ≠ gb377) ∧ (Below w.heap.size w w')) ?_ ?_
         rotate_left
         ·intro hCont
          refine two_ (i := 13) (j := 17) (Ni := some 59) (Nj := some 10) (bs 20 14) (bm 20 139263) rfl rfl rfl rfl (two_of HT_.out (by kernel_rfl)) (by decide) (by decide) (fun K hK => ?_) (fun K hK => ?_)
          ·skip
           refine gs_ Try.func78 #[.agg #[.int .i64 ((rd_T38 l0_4 t369).f3.f0), .int .i64 ((rd_T38 l0_4 t369).f3.f1), .int .i64 ((rd_T38 l0_4 t369).f3.f2)], .agg #[.int .i64 a1_0, .int .i64 a1_1, .int .i64 a1_2], .int .i64 ((rd_T38 l0_4 t369).f1)] ?_
           with_reducible refine (spec_Finish.calls kj3 ((rd_T38 l0_4 t369).f3.f0) ((rd_T38 l0_4 t369).f3.f1) ((rd_T38 l0_4 t369).f3.f2) a1_0 a1_1 a1_2 ((rd_T38 l0_4 t369).f1) t385 t386 t387 t388 _ A64.out).mono ?_
           rintro e w91 ⟨rfl, hb⟩
           refine ⟨_, rfl, ?_⟩
           replace HO376 := Aside0.mk (Kd.R_below (kr_ HO376) hb); replace BK363 := bb_ BK363 hb; replace BK364 := bb_ BK364 hb; replace BK365 := bb_ BK365 hb; replace BK377 := bb_ BK377 hb; replace HB := Aside0.mk (below_step (bf_ HB) hb); (try clear hb); (try clear hb2); (try clear hk); (try clear hi)
           refine hK.out _ _ ⟨bt_ BK363 0, bt_ BK363 1, bt_ BK363 2, bt_ BK363 3, bt_ BK363 4, bt_ BK364 0, bt_ BK364 1, bt_ BK364 2, (hd_ HB hw383_0), (hd_ HB hw383_1), (hd_ HB hw383_2), (hd_ HB hw383_3), (hd_ HB hw383_4), (hd_ HB hw383_5), (hd_ HB hw384_0), (hd_ HB hw384_1), (hd_ HB hw384_2), (hd_ HB hw384_3), (hd_ HB hw384_4), (hd_ HB hw384_5)⟩ (fun hHeld => ?_)
           clear hK K
           refine norm_ (a' := ?_) ?_ ?_
           rotate_left
           ·show Act.put _ (some 59) _ = _
            simp only [Act.put, ls0_, ls1_, ls2_, i64_w, i32_w]
            rfl
           refine ps_ 14 45 (bs 20 15) HT_ ?_
           refine ps_ 15 60 (bs 20 16) HT_ ?_
           refine ps_ 16 61 (bs 20 17) HT_ ?_
           refine on_ 17 (some 10) (bs 20 18) HT_ (fun K hK => ?_)
           refine box_step ?hg (N := 10) ?hd (cs := #[.int .i64 0, .int .i64 0, .int .i64 0]) (t := 29) ?hr ?_; (case hd => rfl); (case hg => rfl); (case hr => first | (go_simp; done) | (go_simp; rfl))
           intro gb389 hg w92 hbox hb
           replace HO376 := Aside0.mk (Kd.R_below (kr_ HO376) hb); have BK389 := Aside0.mk (hbox); have GW389 := gw_ HB hg; have GE389 := gw_ HB hg; replace HB := Aside0.mk (below_step (bf_ HB) hb); have NB363_389 := nl_ BK363 hg; have NB389_363 := ng_ BK363 hg; replace BK363 := bb_ BK363 hb; have NB364_389 := nl_ BK364 hg; have NB389_364 := ng_ BK364 hg; replace BK364 := bb_ BK364 hb; have NB365_389 := nl_ BK365 hg; have NB389_365 := ng_ BK365 hg; replace BK365 := bb_ BK365 hb; have NB377_389 := nl_ BK377 hg; have NB389_377 := ng_ BK377 hg; replace BK377 := bb_ BK377 hb; clear hb hbox hg
           refine hK.out _ _ ⟨bt_ BK363 0, bt_ BK363 1, bt_ BK363 2, bt_ BK363 3, bt_ BK363 4, bt_ BK364 0, bt_ BK364 1, bt_ BK364 2, (hd_ HB hw383_0), (hd_ HB hw383_1), (hd_ HB hw383_2), (hd_ HB hw383_3), (hd_ HB hw383_4), (hd_ HB hw383_5), (hd_ HB hw384_0), (hd_ HB hw384_1), (hd_ HB hw384_2), (hd_ HB hw384_3), (hd_ HB hw384_4), (hd_ HB hw384_5)⟩ (fun hHeld => ?_)
           clear hK K
           refine norm_ (a' := ?_) ?_ ?_
           rotate_left
           ·show Act.put _ (some 10) _ = _
            simp only [Act.put, ls0_, ls1_, ls2_, i64_w, i32_w]
            rfl
           exact norm_ (by simp only [putAll, Act.put, ls0_, ls1_, ls2_]) (hCont (gb389) _ ⟨hHeld, (kr_ HO376), (bk_ BK363), (bk_ BK364), (bk_ BK365), (bk_ BK377), (bk_ BK389), GW389.out, GE389.out, NB363_389.out, NB389_363.out, NB364_389.out, NB389_364.out, NB365_389.out, NB389_365.out, NB377_389.out, NB389_377.out, (bf_ HB)⟩)
          ·skip
           refine box_step ?hg (N := 10) ?hd (cs := #[.int .i64 0, .int .i64 0, .int .i64 0]) (t := 29) ?hr ?_; (case hd => rfl); (case hg => rfl); (case hr => first | (go_simp; done) | (go_simp; rfl))
           intro gb389 hg w91 hbox hb
           replace HO376 := Aside0.mk (Kd.R_below (kr_ HO376) hb); have BK389 := Aside0.mk (hbox); have GW389 := gw_ HB hg; have GE389 := gw_ HB hg; replace HB := Aside0.mk (below_step (bf_ HB) hb); have NB363_389 := nl_ BK363 hg; have NB389_363 := ng_ BK363 hg; replace BK363 := bb_ BK363 hb; have NB364_389 := nl_ BK364 hg; have NB389_364 := ng_ BK364 hg; replace BK364 := bb_ BK364 hb; have NB365_389 := nl_ BK365 hg; have NB389_365 := ng_ BK365 hg; replace BK365 := bb_ BK365 hb; have NB377_389 := nl_ BK377 hg; have NB389_377 := ng_ BK377 hg; replace BK377 := bb_ BK377 hb; clear hb hbox hg
           refine hK.out _ _ ⟨bt_ BK363 0, bt_ BK363 1, bt_ BK363 2, bt_ BK363 3, bt_ BK363 4, bt_ BK364 0, bt_ BK364 1, bt_ BK364 2, (hd_ HB hw383_0), (hd_ HB hw383_1), (hd_ HB hw383_2), (hd_ HB hw383_3), (hd_ HB hw383_4), (hd_ HB hw383_5), (hd_ HB hw384_0), (hd_ HB hw384_1), (hd_ HB hw384_2), (hd_ HB hw384_3), (hd_ HB hw384_4), (hd_ HB hw384_5)⟩ (fun hHeld => ?_)
           clear hK K
           refine norm_ (a' := ?_) ?_ ?_
           rotate_left
           ·show Act.put _ (some 10) _ = _
            simp only [Act.put, ls0_, ls1_, ls2_, i64_w, i32_w]
            rfl
           refine on_ 13 (some 59) (bm 20 147455) HT_ (fun K hK => ?_)
           refine gs_ Try.func78 #[.agg #[.int .i64 ((rd_T38 l0_4 t369).f3.f0), .int .i64 ((rd_T38 l0_4 t369).f3.f1), .int .i64 ((rd_T38 l0_4 t369).f3.f2)], .agg #[.int .i64 a1_0, .int .i64 a1_1, .int .i64 a1_2], .int .i64 ((rd_T38 l0_4 t369).f1)] ?_
           with_reducible refine (spec_Finish.calls kj3 ((rd_T38 l0_4 t369).f3.f0) ((rd_T38 l0_4 t369).f3.f1) ((rd_T38 l0_4 t369).f3.f2) a1_0 a1_1 a1_2 ((rd_T38 l0_4 t369).f1) t385 t386 t387 t388 _ A64.out).mono ?_
           rintro e w92 ⟨rfl, hb⟩
           refine ⟨_, rfl, ?_⟩
           replace HO376 := Aside0.mk (Kd.R_below (kr_ HO376) hb); replace BK363 := bb_ BK363 hb; replace BK364 := bb_ BK364 hb; replace BK365 := bb_ BK365 hb; replace BK377 := bb_ BK377 hb; replace BK389 := bb_ BK389 hb; replace HB := Aside0.mk (below_step (bf_ HB) hb); (try clear hb); (try clear hb2); (try clear hk); (try clear hi)
           refine hK.out _ _ ⟨bt_ BK363 0, bt_ BK363 1, bt_ BK363 2, bt_ BK363 3, bt_ BK363 4, bt_ BK364 0, bt_ BK364 1, bt_ BK364 2, (hd_ HB hw383_0), (hd_ HB hw383_1), (hd_ HB hw383_2), (hd_ HB hw383_3), (hd_ HB hw383_4), (hd_ HB hw383_5), (hd_ HB hw384_0), (hd_ HB hw384_1), (hd_ HB hw384_2), (hd_ HB hw384_3), (hd_ HB hw384_4), (hd_ HB hw384_5)⟩ (fun hHeld => ?_)
           clear hK K
           refine norm_ (a' := ?_) ?_ ?_
           rotate_left
           ·show Act.put _ (some 59) _ = _
            simp only [Act.put, ls0_, ls1_, ls2_, i64_w, i32_w]
            rfl
           refine ps_ 14 45 (bm 20 163839) HT_ ?_
           refine ps_ 15 60 (bm 20 196607) HT_ ?_
           refine ps_ 16 61 (bs 20 18) HT_ ?_
           exact norm_ (by simp only [putAll, Act.put, ls0_, ls1_, ls2_]) (hCont (gb389) _ ⟨hHeld, (kr_ HO376), (bk_ BK363), (bk_ BK364), (bk_ BK365), (bk_ BK377), (bk_ BK389), GW389.out, GE389.out, NB363_389.out, NB389_363.out, NB364_389.out, NB389_364.out, NB365_389.out, NB389_365.out, NB377_389.out, NB389_377.out, (bf_ HB)⟩)
         rintro gb389 w93 ⟨hS_, h0_, h1_, h2_, h3_, h4_, h5_, h6_, h7_, h8_, h9_, h10_, h11_, h12_, h13_, h14_, h15_, h16_⟩
         have n0_ : Aside0 (Kd.R k38 38 w93 w.heap.size (fun _ => True) (.slice Ao81 t374.length co81) t374) := ⟨h0_⟩
         have n1_ : Aside0 (w93.heap[gb363]? = some (.cells #[.int .i64 a0_0, .int .i64 a0_1, .int .i64 a0_2, .int .i64 a0_3, .slice (some ad378) l0_4.length c0_4] 32 (0, 0))) := ⟨h1_⟩
         have n2_ : Aside0 (w93.heap[gb364]? = some (.cells #[.int .i64 a1_0, .int .i64 a1_1, .int .i64 a1_2] 29 (0, 0))) := ⟨h2_⟩
         have n3_ : Aside0 (w93.heap[gb365]? = some (.cells #[.int .i64 0, .int .i64 0, .int .i64 0, .int .i64 0, .slice none 0 0] 32 (0, 0))) := ⟨h3_⟩
         have n4_ : Aside0 (w93.heap[gb377]? = some (.cells #[.int .i64 t370, .int .i64 t379, .int .i64 t380, .int .i64 t381, .slice Ao81 t374.length co81] 32 (0, 0))) := ⟨h4_⟩
         have n5_ : Aside0 (w93.heap[gb389]? = some (.cells #[.int .i64 0, .int .i64 0, .int .i64 0] 29 (0, 0))) := ⟨h5_⟩
         have n6_ : Aside0 (w.heap.size ≤ gb389) := ⟨h6_⟩
         have n7_ : Aside0 (w.heap.size ≤ gb389) := ⟨h7_⟩
         have n8_ : Aside0 (gb363 ≠ gb389) := ⟨h8_⟩
         have n9_ : Aside0 (gb389 ≠ gb363) := ⟨h9_⟩
         have n10_ : Aside0 (gb364 ≠ gb389) := ⟨h10_⟩
         have n11_ : Aside0 (gb389 ≠ gb364) := ⟨h11_⟩
         have n12_ : Aside0 (gb365 ≠ gb389) := ⟨h12_⟩
         have n13_ : Aside0 (gb389 ≠ gb365) := ⟨h13_⟩
         have n14_ : Aside0 (gb377 ≠ gb389) := ⟨h14_⟩
         have n15_ : Aside0 (gb389 ≠ gb377) := ⟨h15_⟩
         have n16_ : Aside0 (Below w.heap.size w w93) := ⟨h16_⟩
         clear HO376 BK363 BK364 BK365 BK377 HB h0_ h1_ h2_ h3_ h4_ h5_ h6_ h7_ h8_ h9_ h10_ h11_ h12_ h13_ h14_ h15_ h16_; have HO376 := n0_; have BK363 := n1_; have BK364 := n2_; have BK365 := n3_; have BK377 := n4_; have BK389 := n5_; have GW389 := n6_; have GE389 := n7_; have NB363_389 := n8_; have NB389_363 := n9_; have NB364_389 := n10_; have NB389_364 := n11_; have NB365_389 := n12_; have NB389_365 := n13_; have NB377_389 := n14_; have NB389_377 := n15_; have HB := n16_; clear n0_ n1_ n2_ n3_ n4_ n5_ n6_ n7_ n8_ n9_ n10_ n11_ n12_ n13_ n14_ n15_ n16_
         have hHeld : w93.cell? ⟨gb363, 0, none⟩ = some (.int .i64 a0_0) ∧ w93.cell? ⟨gb363, 1, none⟩ = some (.int .i64 a0_1) ∧ w93.cell? ⟨gb363, 2, none⟩ = some (.int .i64 a0_2) ∧ w93.cell? ⟨gb363, 3, none⟩ = some (.int .i64 a0_3) ∧ w93.cell? ⟨gb363, 4, none⟩ = some (.slice (some ad378) l0_4.length c0_4) ∧ w93.cell? ⟨gb364, 0, none⟩ = some (.int .i64 a1_0) ∧ w93.cell? ⟨gb364, 1, none⟩ = some (.int .i64 a1_1) ∧ w93.cell? ⟨gb364, 2, none⟩ = some (.int .i64 a1_2) ∧ w93.cell? (ad378.add ((t369).toNat * 6)) = some (.int .i64 ((rd_T38 l0_4 t369).f0)) ∧ w93.cell? ⟨(ad378.add ((t369).toNat * 6)).block, (ad378.add ((t369).toNat * 6)).off + 1, none⟩ = some (.int .i64 ((rd_T38 l0_4 t369).f1)) ∧ w93.cell? ⟨(ad378.add ((t369).toNat * 6)).block, (ad378.add ((t369).toNat * 6)).off + 2, none⟩ = some (.bool ((rd_T38 l0_4 t369).f2)) ∧ w93.cell? ⟨(ad378.add ((t369).toNat * 6)).block, (ad378.add ((t369).toNat * 6)).off + 3, none⟩ = some (.int .i64 ((rd_T38 l0_4 t369).f3.f0)) ∧ w93.cell? ⟨(ad378.add ((t369).toNat * 6)).block, (ad378.add ((t369).toNat * 6)).off + 4, none⟩ = some (.int .i64 ((rd_T38 l0_4 t369).f3.f1)) ∧ w93.cell? ⟨(ad378.add ((t369).toNat * 6)).block, (ad378.add ((t369).toNat * 6)).off + 5, none⟩ = some (.int .i64 ((rd_T38 l0_4 t369).f3.f2)) ∧ w93.cell? (ad378.add ((t369).toNat * 6)) = some (.int .i64 ((rd_T38 l0_4 t369).f0)) ∧ w93.cell? ⟨(ad378.add ((t369).toNat * 6)).block, (ad378.add ((t369).toNat * 6)).off + 1, none⟩ = some (.int .i64 ((rd_T38 l0_4 t369).f1)) ∧ w93.cell? ⟨(ad378.add ((t369).toNat * 6)).block, (ad378.add ((t369).toNat * 6)).off + 2, none⟩ = some (.bool ((rd_T38 l0_4 t369).f2)) ∧ w93.cell? ⟨(ad378.add ((t369).toNat * 6)).block, (ad378.add ((t369).toNat * 6)).off + 3, none⟩ = some (.int .i64 ((rd_T38 l0_4 t369).f3.f0)) ∧ w93.cell? ⟨(ad378.add ((t369).toNat * 6)).block, (ad378.add ((t369).toNat * 6)).off + 4, none⟩ = some (.int .i64 ((rd_T38 l0_4 t369).f3.f1)) ∧ w93.cell? ⟨(ad378.add ((t369).toNat * 6)).block, (ad378.add ((t369).toNat * 6)).off + 5, none⟩ = some (.int .i64 ((rd_T38 l0_4 t369).f3.f2)) := hS_
         refine norm_ (a' := ?_) ?_ ?_
         rotate_left
         ·simp only [putAll, Act.put, ls0_, ls1_, ls2_]
          rfl
         refine on_ 18 none (bs 20 19) HT_ (fun K hK => ?_)
         have hs94 := bc_ BK389 0 (.int .i64 0) rfl; have hfs94 := blk_frozen BK389.out 0; have hns94_0 := NB363_389.out; have hns94_1 := NB364_389.out; have hns94_2 := NB365_389.out; have hns94_3 := NB377_389.out; have hms94_0 := NB389_363.out; have hms94_1 := NB389_364.out; have hms94_2 := NB389_365.out; have hms94_3 := NB389_377.out; have hs95 := bc_ BK389 1 (.int .i64 0) rfl; have hfs95 := blk_frozen BK389.out 1; have hns95_0 := NB363_389.out; have hns95_1 := NB364_389.out; have hns95_2 := NB365_389.out; have hns95_3 := NB377_389.out; have hms95_0 := NB389_363.out; have hms95_1 := NB389_364.out; have hms95_2 := NB389_365.out; have hms95_3 := NB389_377.out; have hs96 := bc_ BK389 2 (.int .i64 0) rfl; have hfs96 := blk_frozen BK389.out 2; have hns96_0 := NB363_389.out; have hns96_1 := NB364_389.out; have hns96_2 := NB365_389.out; have hns96_3 := NB377_389.out; have hms96_0 := NB389_363.out; have hms96_1 := NB389_364.out; have hms96_2 := NB389_365.out; have hms96_3 := NB389_377.out
         refine skip_ (w1 := ?_) (by rfl) rfl ?_ ?_
         rotate_left
         ·go_simp
          rfl
         refine hK.out _ _ ⟨(cf3_ NB363_389.out hHeld.1), (cf3_ NB363_389.out hHeld.2.1), (cf3_ NB363_389.out hHeld.2.2.1), (cf3_ NB363_389.out hHeld.2.2.2.1), (cf3_ NB363_389.out hHeld.2.2.2.2.1), (cf3_ NB364_389.out hHeld.2.2.2.2.2.1), (cf3_ NB364_389.out hHeld.2.2.2.2.2.2.1), (cf3_ NB364_389.out hHeld.2.2.2.2.2.2.2.1), (cf3_ (by first | exact Nat.ne_of_lt (Nat.lt_of_lt_of_le (by have := World.block_lt_of_cell? _ _ hw383_0; first | rwa [add_block] at this | exact this) GW389.out) | (rw [add_block]; exact Nat.ne_of_lt (Nat.lt_of_lt_of_le (by have := World.block_lt_of_cell? _ _ hw383_0; first | rwa [add_block] at this | exact this) GW389.out)) | (show (Addr.add _ _).block ≠ _; rw [add_block]; exact Nat.ne_of_lt (Nat.lt_of_lt_of_le (by have := World.block_lt_of_cell? _ _ hw383_0; first | rwa [add_block] at this | exact this) GW389.out)) | (dsimp only; exact Nat.ne_of_lt (Nat.lt_of_lt_of_le (by have := World.block_lt_of_cell? _ _ hw383_0; first | rwa [add_block] at this | exact this) GW389.out))) hHeld.2.2.2.2.2.2.2.2.1), (cf3_ (by first | exact Nat.ne_of_lt (Nat.lt_of_lt_of_le (by have := World.block_lt_of_cell? _ _ hw383_1; first | rwa [add_block] at this | exact this) GW389.out) | (rw [add_block]; exact Nat.ne_of_lt (Nat.lt_of_lt_of_le (by have := World.block_lt_of_cell? _ _ hw383_1; first | rwa [add_block] at this | exact this) GW389.out)) | (show (Addr.add _ _).block ≠ _; rw [add_block]; exact Nat.ne_of_lt (Nat.lt_of_lt_of_le (by have := World.block_lt_of_cell? _ _ hw383_1; first | rwa [add_block] at this | exact this) GW389.out)) | (dsimp only; exact Nat.ne_of_lt (Nat.lt_of_lt_of_le (by have := World.block_lt_of_cell? _ _ hw383_1; first | rwa [add_block] at this | exact this) GW389.out))) hHeld.2.2.2.2.2.2.2.2.2.1), (cf3_ (by first | exact Nat.ne_of_lt (Nat.lt_of_lt_of_le (by have := World.block_lt_of_cell? _ _ hw383_2; first | rwa [add_block] at this | exact this) GW389.out) | (rw [add_block]; exact Nat.ne_of_lt (Nat.lt_of_lt_of_le (by have := World.block_lt_of_cell? _ _ hw383_2; first | rwa [add_block] at this | exact this) GW389.out)) | (show (Addr.add _ _).block ≠ _; rw [add_block]; exact Nat.ne_of_lt (Nat.lt_of_lt_of_le (by have := World.block_lt_of_cell? _ _ hw383_2; first | rwa [add_block] at this | exact this) GW389.out)) | (dsimp only; exact Nat.ne_of_lt (Nat.lt_of_lt_of_le (by have := World.block_lt_of_cell? _ _ hw383_2; first | rwa [add_block] at this | exact this) GW389.out))) hHeld.2.2.2.2.2.2.2.2.2.2.1), (cf3_ (by first | exact Nat.ne_of_lt (Nat.lt_of_lt_of_le (by have := World.block_lt_of_cell? _ _ hw383_3; first | rwa [add_block] at this | exact this) GW389.out) | (rw [add_block]; exact Nat.ne_of_lt (Nat.lt_of_lt_of_le (by have := World.block_lt_of_cell? _ _ hw383_3; first | rwa [add_block] at this | exact this) GW389.out)) | (show (Addr.add _ _).block ≠ _; rw [add_block]; exact Nat.ne_of_lt (Nat.lt_of_lt_of_le (by have := World.block_lt_of_cell? _ _ hw383_3; first | rwa [add_block] at this | exact this) GW389.out)) | (dsimp only; exact Nat.ne_of_lt (Nat.lt_of_lt_of_le (by have := World.block_lt_of_cell? _ _ hw383_3; first | rwa [add_block] at this | exact this) GW389.out))) hHeld.2.2.2.2.2.2.2.2.2.2.2.1), (cf3_ (by first | exact Nat.ne_of_lt (Nat.lt_of_lt_of_le (by have := World.block_lt_of_cell? _ _ hw383_4; first | rwa [add_block] at this | exact this) GW389.out) | (rw [add_block]; exact Nat.ne_of_lt (Nat.lt_of_lt_of_le (by have := World.block_lt_of_cell? _ _ hw383_4; first | rwa [add_block] at this | exact this) GW389.out)) | (show (Addr.add _ _).block ≠ _; rw [add_block]; exact Nat.ne_of_lt (Nat.lt_of_lt_of_le (by have := World.block_lt_of_cell? _ _ hw383_4; first | rwa [add_block] at this | exact this) GW389.out)) | (dsimp only; exact Nat.ne_of_lt (Nat.lt_of_lt_of_le (by have := World.block_lt_of_cell? _ _ hw383_4; first | rwa [add_block] at this | exact this) GW389.out))) hHeld.2.2.2.2.2.2.2.2.2.2.2.2.1), (cf3_ (by first | exact Nat.ne_of_lt (Nat.lt_of_lt_of_le (by have := World.block_lt_of_cell? _ _ hw383_5; first | rwa [add_block] at this | exact this) GW389.out) | (rw [add_block]; exact Nat.ne_of_lt (Nat.lt_of_lt_of_le (by have := World.block_lt_of_cell? _ _ hw383_5; first | rwa [add_block] at this | exact this) GW389.out)) | (show (Addr.add _ _).block ≠ _; rw [add_block]; exact Nat.ne_of_lt (Nat.lt_of_lt_of_le (by have := World.block_lt_of_cell? _ _ hw383_5; first | rwa [add_block] at this | exact this) GW389.out)) | (dsimp only; exact Nat.ne_of_lt (Nat.lt_of_lt_of_le (by have := World.block_lt_of_cell? _ _ hw383_5; first | rwa [add_block] at this | exact this) GW389.out))) hHeld.2.2.2.2.2.2.2.2.2.2.2.2.2.1), (cf3_ (by first | exact Nat.ne_of_lt (Nat.lt_of_lt_of_le (by have := World.block_lt_of_cell? _ _ hw384_0; first | rwa [add_block] at this | exact this) GW389.out) | (rw [add_block]; exact Nat.ne_of_lt (Nat.lt_of_lt_of_le (by have := World.block_lt_of_cell? _ _ hw384_0; first | rwa [add_block] at this | exact this) GW389.out)) | (show (Addr.add _ _).block ≠ _; rw [add_block]; exact Nat.ne_of_lt (Nat.lt_of_lt_of_le (by have := World.block_lt_of_cell? _ _ hw384_0; first | rwa [add_block] at this | exact this) GW389.out)) | (dsimp only; exact Nat.ne_of_lt (Nat.lt_of_lt_of_le (by have := World.block_lt_of_cell? _ _ hw384_0; first | rwa [add_block] at this | exact this) GW389.out))) hHeld.2.2.2.2.2.2.2.2.2.2.2.2.2.2.1), (cf3_ (by first | exact Nat.ne_of_lt (Nat.lt_of_lt_of_le (by have := World.block_lt_of_cell? _ _ hw384_1; first | rwa [add_block] at this | exact this) GW389.out) | (rw [add_block]; exact Nat.ne_of_lt (Nat.lt_of_lt_of_le (by have := World.block_lt_of_cell? _ _ hw384_1; first | rwa [add_block] at this | exact this) GW389.out)) | (show (Addr.add _ _).block ≠ _; rw [add_block]; exact Nat.ne_of_lt (Nat.lt_of_lt_of_le (by have := World.block_lt_of_cell? _ _ hw384_1; first | rwa [add_block] at this | exact this) GW389.out)) | (dsimp only; exact Nat.ne_of_lt (Nat.lt_of_lt_of_le (by have := World.block_lt_of_cell? _ _ hw384_1; first | rwa [add_block] at this | exact this) GW389.out))) hHeld.2.2.2.2.2.2.2.2.2.2.2.2.2.2.2.1), (cf3_ (by first | exact Nat.ne_of_lt (Nat.lt_of_lt_of_le (by have := World.block_lt_of_cell? _ _ hw384_2; first | rwa [add_block] at this | exact this) GW389.out) | (rw [add_block]; exact Nat.ne_of_lt (Nat.lt_of_lt_of_le (by have := World.block_lt_of_cell? _ _ hw384_2; first | rwa [add_block] at this | exact this) GW389.out)) | (show (Addr.add _ _).block ≠ _; rw [add_block]; exact Nat.ne_of_lt (Nat.lt_of_lt_of_le (by have := World.block_lt_of_cell? _ _ hw384_2; first | rwa [add_block] at this | exact this) GW389.out)) | (dsimp only; exact Nat.ne_of_lt (Nat.lt_of_lt_of_le (by have := World.block_lt_of_cell? _ _ hw384_2; first | rwa [add_block] at this | exact this) GW389.out))) hHeld.2.2.2.2.2.2.2.2.2.2.2.2.2.2.2.2.1), (cf3_ (by first | exact Nat.ne_of_lt (Nat.lt_of_lt_of_le (by have := World.block_lt_of_cell? _ _ hw384_3; first | rwa [add_block] at this | exact this) GW389.out) | (rw [add_block]; exact Nat.ne_of_lt (Nat.lt_of_lt_of_le (by have := World.block_lt_of_cell? _ _ hw384_3; first | rwa [add_block] at this | exact this) GW389.out)) | (show (Addr.add _ _).block ≠ _; rw [add_block]; exact Nat.ne_of_lt (Nat.lt_of_lt_of_le (by have := World.block_lt_of_cell? _ _ hw384_3; first | rwa [add_block] at this | exact this) GW389.out)) | (dsimp only; exact Nat.ne_of_lt (Nat.lt_of_lt_of_le (by have := World.block_lt_of_cell? _ _ hw384_3; first | rwa [add_block] at this | exact this) GW389.out))) hHeld.2.2.2.2.2.2.2.2.2.2.2.2.2.2.2.2.2.1), (cf3_ (by first | exact Nat.ne_of_lt (Nat.lt_of_lt_of_le (by have := World.block_lt_of_cell? _ _ hw384_4; first | rwa [add_block] at this | exact this) GW389.out) | (rw [add_block]; exact Nat.ne_of_lt (Nat.lt_of_lt_of_le (by have := World.block_lt_of_cell? _ _ hw384_4; first | rwa [add_block] at this | exact this) GW389.out)) | (show (Addr.add _ _).block ≠ _; rw [add_block]; exact Nat.ne_of_lt (Nat.lt_of_lt_of_le (by have := World.block_lt_of_cell? _ _ hw384_4; first | rwa [add_block] at this | exact this) GW389.out)) | (dsimp only; exact Nat.ne_of_lt (Nat.lt_of_lt_of_le (by have := World.block_lt_of_cell? _ _ hw384_4; first | rwa [add_block] at this | exact this) GW389.out))) hHeld.2.2.2.2.2.2.2.2.2.2.2.2.2.2.2.2.2.2.1), (cf3_ (by first | exact Nat.ne_of_lt (Nat.lt_of_lt_of_le (by have := World.block_lt_of_cell? _ _ hw384_5; first | rwa [add_block] at this | exact this) GW389.out) | (rw [add_block]; exact Nat.ne_of_lt (Nat.lt_of_lt_of_le (by have := World.block_lt_of_cell? _ _ hw384_5; first | rwa [add_block] at this | exact this) GW389.out)) | (show (Addr.add _ _).block ≠ _; rw [add_block]; exact Nat.ne_of_lt (Nat.lt_of_lt_of_le (by have := World.block_lt_of_cell? _ _ hw384_5; first | rwa [add_block] at this | exact this) GW389.out)) | (dsimp only; exact Nat.ne_of_lt (Nat.lt_of_lt_of_le (by have := World.block_lt_of_cell? _ _ hw384_5; first | rwa [add_block] at this | exact this) GW389.out))) hHeld.2.2.2.2.2.2.2.2.2.2.2.2.2.2.2.2.2.2.2)⟩ (fun hHeld => ?_)
         clear hK K
         refine ps_ 19 11 (bs 20 20) HT_ ?_
         refine done_ (done_of HT_.out (by kernel_rfl)) ?_
         try go_wp2
         generalize hW_ : (((w93.setCell ⟨gb389, 0, none⟩ (.int .i64 t385)).setCell ⟨gb389, 1, none⟩ (.int .i64 t386)).setCell ⟨gb389, 2, none⟩ (.int .i64 t387)) = w97
         replace HO376 : Aside0 (Kd.R k38 38 w97 w.heap.size (fun _ => True) (.slice Ao81 t374.length co81) t374) := ⟨by cases hW_; (with_reducible repeat (first | apply Kd.R_alloc | apply Kd.R_drewN | apply Kd.R_drew)); exact Kd.R_mono (Kd.R_far (p := ⟨gb389, 2, none⟩) (Kd.R_far (p := ⟨gb389, 1, none⟩) (Kd.R_far (p := ⟨gb389, 0, none⟩) (Kd.R_types HO376.out BK389.out (by decide)) (fun _ hk => by first | exact hk.2 | grind) (.int .i64 t385)) (fun _ hk => by first | exact hk.2 | grind) (.int .i64 t386)) (fun _ hk => by first | exact hk.2 | grind) (.int .i64 t387)) (fun _ hk => by first | exact trivial | grind)⟩
         replace BK363 := fc3_ hW_ BK363 NB363_389
         replace BK364 := fc3_ hW_ BK364 NB364_389
         replace BK365 := fc3_ hW_ BK365 NB365_389
         replace BK377 := fc3_ hW_ BK377 NB377_389
         replace BK389 : Aside0 (w97.heap[gb389]? = some (.cells #[.int .i64 t385, .int .i64 t386, .int .i64 t387] 29 (0, 0))) := pc3_ hW_ BK389
         replace HB : Aside0 (Below w.heap.size w w97) := ⟨by cases hW_; exact bf_ HB⟩
         clear hW_; replace HO376 := Aside0.mk (Kd.R_drew HO376.out); replace BK363 := Aside0.mk (blk_drew BK363.out); replace BK364 := Aside0.mk (blk_drew BK364.out); replace BK365 := Aside0.mk (blk_drew BK365.out); replace BK377 := Aside0.mk (blk_drew BK377.out); replace BK389 := Aside0.mk (blk_drew BK389.out); replace HB := Aside0.mk (below_drew1 HB.out)
         refine start_ (n := 10) (S := fun w' => cw_ w' gb377 0 (.int .i64 t370) ∧ cw_ w' gb377 1 (.int .i64 t379) ∧ cw_ w' gb377 2 (.int .i64 t380) ∧ cw_ w' gb377 3 (.int .i64 t381) ∧ cw_ w' gb377 4 (.slice Ao81 t374.length co81) ∧ cw_ w' gb389 0 (.int .i64 t385) ∧ cw_ w' gb389 1 (.int .i64 t386) ∧ cw_ w' gb389 2 (.int .i64 t387) ∧ cw_ w' gb363 0 (.int .i64 a0_0) ∧ cw_ w' gb363 1 (.int .i64 a0_1) ∧ cw_ w' gb363 2 (.int .i64 a0_2) ∧ cw_ w' gb363 3 (.int .i64 a0_3) ∧ cw_ w' gb363 4 (.slice (some ad378) l0_4.length c0_4)) (ds := [9]) (bs 10 0) (by kernel_rfl) rfl rfl ⟨bt_ BK377 0, bt_ BK377 1, bt_ BK377 2, bt_ BK377 3, bt_ BK377 4, bt_ BK389 0, bt_ BK389 1, bt_ BK389 2, bt_ BK363 0, bt_ BK363 1, bt_ BK363 2, bt_ BK363 3, bt_ BK363 4⟩ (fun hHeld => ?_); refine with_tabW spec_FairServe.tab11 spec_FairServe.bits11 (fun HT_ HW_ => ?_)
         generalize w97.drew = w98 at HO376 BK363 BK364 BK365 BK377 BK389 HB hHeld ⊢
         refine ps_ 0 62 (bs 10 1) HT_ ?_
         refine ps_ 2 64 (bm 10 5) HT_ ?_
         refine ps_ 4 66 (bm 10 21) HT_ ?_
         refine tk_ 1 63 (bm 10 23) HT_ HW_ hHeld ?_
         refine tk_ 3 65 (bs 10 5) HT_ HW_ hHeld ?_
         refine tk_ 5 67 (bs 10 6) HT_ HW_ hHeld ?_
         refine on_ 6 (some 68) (bs 10 7) HT_ (fun K hK => ?_)
         refine gs_ Try.func79 #[.agg #[.int .i64 t385, .int .i64 t386, .int .i64 t387], .int .i64 a0_0] ?_
         with_reducible refine (spec_Dovetail.calls kj3 t385 t386 t387 a0_0 t390 t391 t392 _ A65.out).mono ?_
         rintro e w99 ⟨rfl, hb⟩
         refine ⟨_, rfl, ?_⟩
         replace HO376 := Aside0.mk (Kd.R_below (kr_ HO376) hb); replace BK363 := bb_ BK363 hb; replace BK364 := bb_ BK364 hb; replace BK365 := bb_ BK365 hb; replace BK377 := bb_ BK377 hb; replace BK389 := bb_ BK389 hb; replace HB := Aside0.mk (below_step (bf_ HB) hb); (try clear hb); (try clear hb2); (try clear hk); (try clear hi)
         have p67 : 0 ≤ (t369 : Int) := od_
         have q67 : (t369 : Int) < ((t374.length : Int) : Int) := od_
         obtain ⟨go67, co67, eo67, gb67, gl67, cl67, HG67⟩ := Kd.R_form HO376.out (by omega)
         (first | cases eo67 | (injection eo67 with ea_ en_ ec_; (first | subst ea_ | (injection ea_ with ea_; subst ea_)); subst ec_; clear en_))
         have GB67 := Aside0.mk gb67
         have GG67 := Aside0.mk HG67
         clear gb67 gl67 HG67
         obtain ⟨ce67, hcl67, hM67, hcc67, hfr67⟩ := Kd.R_elem HO376.out z38 (t369 : Int) p67 q67
         obtain rfl := k38_openM hM67
         have hx67_0 : World.cell? _ ⟨go67, (t369 : Int).toNat * 6, none⟩ = some (.int .i64 ((rd_T38 t374 t369).f0)) := hcc67 0 _ rfl
         have hx67_1 : World.cell? _ ⟨go67, (t369 : Int).toNat * 6 + 1, none⟩ = some (.int .i64 ((rd_T38 t374 t369).f1)) := hcc67 1 _ rfl
         have hx67_2 : World.cell? _ ⟨go67, (t369 : Int).toNat * 6 + 2, none⟩ = some (.bool ((rd_T38 t374 t369).f2)) := hcc67 2 _ rfl
         have hx67_3 : World.cell? _ ⟨go67, (t369 : Int).toNat * 6 + 3, none⟩ = some (.int .i64 ((rd_T38 t374 t369).f3.f0)) := hcc67 3 _ rfl
         have hx67_4 : World.cell? _ ⟨go67, (t369 : Int).toNat * 6 + 4, none⟩ = some (.int .i64 ((rd_T38 t374 t369).f3.f1)) := hcc67 4 _ rfl
         have hx67_5 : World.cell? _ ⟨go67, (t369 : Int).toNat * 6 + 5, none⟩ = some (.int .i64 ((rd_T38 t374 t369).f3.f2)) := hcc67 5 _ rfl
         have hf67_0 : World.frozen? _ ⟨go67, (t369 : Int).toNat * 6, none⟩ = false := hfr67 0
         have hf67_1 : World.frozen? _ ⟨go67, (t369 : Int).toNat * 6 + 1, none⟩ = false := hfr67 1
         have hf67_2 : World.frozen? _ ⟨go67, (t369 : Int).toNat * 6 + 2, none⟩ = false := hfr67 2
         have hf67_3 : World.frozen? _ ⟨go67, (t369 : Int).toNat * 6 + 3, none⟩ = false := hfr67 3
         have hf67_4 : World.frozen? _ ⟨go67, (t369 : Int).toNat * 6 + 4, none⟩ = false := hfr67 4
         have hf67_5 : World.frozen? _ ⟨go67, (t369 : Int).toNat * 6 + 5, none⟩ = false := hfr67 5
         clear hcl67 hcc67 hfr67 hM67
         replace p67 := eq_true p67
         replace q67 := eq_true q67
         obtain ⟨ce100, hcl100, hM100, hcc100, hfr100⟩ := Kd.R_elem HO376.out z38 (t369 : Int) (od_) (by have h_ : (t369 : Int) < ((t374.length : Int) : Int) := od_; first | exact h_ | (have e_ := (Kd.R_reads' HO376.out).1; omega) | simpa using h_)
         obtain rfl := k38_openM hM100
         have HP100 := (Kd.R_seg HO376.out (t369 : Int) (od_) (by have h_ : (t369 : Int) < ((t374.length : Int) : Int) := od_; first | exact h_ | (have e_ := (Kd.R_reads' HO376.out).1; omega) | simpa using h_) (seg := [.int .i64 t390, .int .i64 t391, .int .i64 t392]) (j := 3) hcl100 hcc100 (show 6 ≤ 6 from by decide) (x' := (⟨(rd_T38 t374 t369).f0, (rd_T38 t374 t369).f1, (rd_T38 t374 t369).f2, (⟨t390, t391, t392⟩ : S29)⟩ : S38)) (k38_mkM _ _ _ (⟨(rd_T38 t374 t369).f0, (rd_T38 t374 t369).f1, (rd_T38 t374 t369).f2, (⟨t390, t391, t392⟩ : S29)⟩ : S38) ) (fun _ hk => by first | exact hk | grind)).1
         rw [← Ny393.out] at HP100
         have HQ100 := Aside0.mk HP100
         clear hcl100 hcc100 hfr100 hM100 HP100
         refine hK.out _ _ ⟨bt_ BK377 0, bt_ BK377 1, bt_ BK377 2, bt_ BK377 3, bt_ BK377 4, bt_ BK389 0, bt_ BK389 1, bt_ BK389 2, bt_ BK363 0, bt_ BK363 1, bt_ BK363 2, bt_ BK363 3, bt_ BK363 4⟩ (fun hHeld => ?_)
         clear hK K
         refine norm_ (a' := ?_) ?_ ?_
         rotate_left
         ·show Act.put _ (some 68) _ = _
          simp only [Act.put, ls0_, ls1_, ls2_, i64_w, i32_w]
          rfl
         refine ps_ 7 69 (bs 10 8) HT_ ?_
         refine ps_ 8 70 (bs 10 9) HT_ ?_
         refine last_ (i := 9) (N := none) (bs 10 10) rfl rfl (one_of HT_.out (by kernel_rfl)) (by decide) (fun K hK => ?_)
         refine skip_ (w1 := ?_) (by rfl) rfl ?_ ?_
         rotate_left
         ·go_simp
          rfl
         refine hK.out _ _ ?_
         clear hK K
         refine done_ (done_of HT_.out (by kernel_rfl)) ?_
         generalize hW_ : (((w99.setCell ⟨go67, (t369 : Int).toNat * 6 + 3, none⟩ (.int .i64 t390)).setCell ⟨go67, (t369 : Int).toNat * 6 + 4, none⟩ (.int .i64 t391)).setCell ⟨go67, (t369 : Int).toNat * 6 + 5, none⟩ (.int .i64 t392)) = w101
         replace BK363 : Aside0 (w101.heap[gb363]? = some (.cells #[.int .i64 a0_0, .int .i64 a0_1, .int .i64 a0_2, .int .i64 a0_3, .slice (some ad378) l0_4.length c0_4] 32 (0, 0))) := ⟨by cases hW_; (with_reducible repeat (first | refine blk_drewN ?_ _ | refine blk_drew ?_ | refine blk_alloc ?_ _)); refine blk_far ?_ (by have h_ := Kd.R_ne HO376.out BK363.out (by decide); intro e_; exact h_ (by rw [e_]; rfl)) _; (with_reducible repeat (first | refine blk_drewN ?_ _ | refine blk_drew ?_ | refine blk_alloc ?_ _)); refine blk_far ?_ (by have h_ := Kd.R_ne HO376.out BK363.out (by decide); intro e_; exact h_ (by rw [e_]; rfl)) _; (with_reducible repeat (first | refine blk_drewN ?_ _ | refine blk_drew ?_ | refine blk_alloc ?_ _)); refine blk_far ?_ (by have h_ := Kd.R_ne HO376.out BK363.out (by decide); intro e_; exact h_ (by rw [e_]; rfl)) _; exact bk_ BK363⟩
         replace BK364 : Aside0 (w101.heap[gb364]? = some (.cells #[.int .i64 a1_0, .int .i64 a1_1, .int .i64 a1_2] 29 (0, 0))) := ⟨by cases hW_; (with_reducible repeat (first | refine blk_drewN ?_ _ | refine blk_drew ?_ | refine blk_alloc ?_ _)); refine blk_far ?_ (by have h_ := Kd.R_ne HO376.out BK364.out (by decide); intro e_; exact h_ (by rw [e_]; rfl)) _; (with_reducible repeat (first | refine blk_drewN ?_ _ | refine blk_drew ?_ | refine blk_alloc ?_ _)); refine blk_far ?_ (by have h_ := Kd.R_ne HO376.out BK364.out (by decide); intro e_; exact h_ (by rw [e_]; rfl)) _; (with_reducible repeat (first | refine blk_drewN ?_ _ | refine blk_drew ?_ | refine blk_alloc ?_ _)); refine blk_far ?_ (by have h_ := Kd.R_ne HO376.out BK364.out (by decide); intro e_; exact h_ (by rw [e_]; rfl)) _; exact bk_ BK364⟩
         replace BK365 : Aside0 (w101.heap[gb365]? = some (.cells #[.int .i64 0, .int .i64 0, .int .i64 0, .int .i64 0, .slice none 0 0] 32 (0, 0))) := ⟨by cases hW_; (with_reducible repeat (first | refine blk_drewN ?_ _ | refine blk_drew ?_ | refine blk_alloc ?_ _)); refine blk_far ?_ (by have h_ := Kd.R_ne HO376.out BK365.out (by decide); intro e_; exact h_ (by rw [e_]; rfl)) _; (with_reducible repeat (first | refine blk_drewN ?_ _ | refine blk_drew ?_ | refine blk_alloc ?_ _)); refine blk_far ?_ (by have h_ := Kd.R_ne HO376.out BK365.out (by decide); intro e_; exact h_ (by rw [e_]; rfl)) _; (with_reducible repeat (first | refine blk_drewN ?_ _ | refine blk_drew ?_ | refine blk_alloc ?_ _)); refine blk_far ?_ (by have h_ := Kd.R_ne HO376.out BK365.out (by decide); intro e_; exact h_ (by rw [e_]; rfl)) _; exact bk_ BK365⟩
         replace BK377 : Aside0 (w101.heap[gb377]? = some (.cells #[.int .i64 t370, .int .i64 t379, .int .i64 t380, .int .i64 t381, .slice (some ⟨go67, 0, none⟩) t374.length co81] 32 (0, 0))) := ⟨by cases hW_; (with_reducible repeat (first | refine blk_drewN ?_ _ | refine blk_drew ?_ | refine blk_alloc ?_ _)); refine blk_far ?_ (by have h_ := Kd.R_ne HO376.out BK377.out (by decide); intro e_; exact h_ (by rw [e_]; rfl)) _; (with_reducible repeat (first | refine blk_drewN ?_ _ | refine blk_drew ?_ | refine blk_alloc ?_ _)); refine blk_far ?_ (by have h_ := Kd.R_ne HO376.out BK377.out (by decide); intro e_; exact h_ (by rw [e_]; rfl)) _; (with_reducible repeat (first | refine blk_drewN ?_ _ | refine blk_drew ?_ | refine blk_alloc ?_ _)); refine blk_far ?_ (by have h_ := Kd.R_ne HO376.out BK377.out (by decide); intro e_; exact h_ (by rw [e_]; rfl)) _; exact bk_ BK377⟩
         replace BK389 : Aside0 (w101.heap[gb389]? = some (.cells #[.int .i64 t385, .int .i64 t386, .int .i64 t387] 29 (0, 0))) := ⟨by cases hW_; (with_reducible repeat (first | refine blk_drewN ?_ _ | refine blk_drew ?_ | refine blk_alloc ?_ _)); refine blk_far ?_ (by have h_ := Kd.R_ne HO376.out BK389.out (by decide); intro e_; exact h_ (by rw [e_]; rfl)) _; (with_reducible repeat (first | refine blk_drewN ?_ _ | refine blk_drew ?_ | refine blk_alloc ?_ _)); refine blk_far ?_ (by have h_ := Kd.R_ne HO376.out BK389.out (by decide); intro e_; exact h_ (by rw [e_]; rfl)) _; (with_reducible repeat (first | refine blk_drewN ?_ _ | refine blk_drew ?_ | refine blk_alloc ?_ _)); refine blk_far ?_ (by have h_ := Kd.R_ne HO376.out BK389.out (by decide); intro e_; exact h_ (by rw [e_]; rfl)) _; exact bk_ BK389⟩
         replace HO376 : Aside0 (Kd.R k38 38 w101 w.heap.size (fun _ => True) (.slice (some ⟨go67, 0, none⟩) t374.length co81) y393) := ⟨by cases hW_; exact kr_ HQ100⟩
         replace HB : Aside0 (Below w.heap.size w w101) := ⟨by cases hW_; repeat (first | (with_reducible first | exact HB.out | apply below_alloc | apply pw_below_drewN | apply below_drew1 | refine below_set ?_ GB67.out | refine below_set ?_ GB67.out | refine below_set ?_ GB67.out | refine below_set ?_ GE363.out | refine below_set ?_ GE364.out | refine below_set ?_ GE365.out | refine below_set ?_ GE377.out | refine below_set ?_ GE389.out) | exact HB.out)⟩
         clear hW_; have hnb102 := NB377_389.out; have hnc102 := NB389_377.out; have hcz103_0 := bc_ BK377 0 (.int .i64 t370) rfl; have hcz103_1 := bc_ BK377 1 (.int .i64 t379) rfl; have hcz103_2 := bc_ BK377 2 (.int .i64 t380) rfl; have hcz103_3 := bc_ BK377 3 (.int .i64 t381) rfl
         have hcz103_4 := bc_ BK377 4 (.slice (some ⟨go67, 0, none⟩) t374.length co81) rfl
         have hfz103_0 := blk_frozen BK377.out 0; have hfz103_1 := blk_frozen BK377.out 1; have hfz103_2 := blk_frozen BK377.out 2; have hfz103_3 := blk_frozen BK377.out 3; have hfz103_4 := blk_frozen BK377.out 4
         have p68 : 0 ≤ (t369 : Int) := od_
         have q68 : (t369 : Int) < ((t374.length : Int) : Int) := od_
         replace p68 := eq_true p68
         replace q68 := eq_true q68
         have HX104 := Aside0.mk (show Kd.R k38 38 w101 w.heap.size (fun _ => True) (.slice (some ⟨go67, 0, none⟩) t374.length co81) y393 from (kr_ HO376))
         obtain ⟨ce104, hcl104, hM104, hcc104, hfr104⟩ := Kd.R_elem HX104.out z38 (t369 : Int) (od_) (by have h_ : (t369 : Int) < ((t374.length : Int) : Int) := od_; first | exact h_ | (have e_ := (Kd.R_reads' HO376.out).1; omega) | simpa using h_)
         obtain rfl := k38_openM hM104
         have HP104 := Kd.R_seg HX104.out (t369 : Int) (od_) (by have h_ : (t369 : Int) < ((t374.length : Int) : Int) := od_; first | exact h_ | (have e_ := (Kd.R_reads' HO376.out).1; omega) | simpa using h_) (seg := [.bool a2]) (j := 2) hcl104 hcc104 (show 3 ≤ 6 from by decide) (x' := (⟨(rd_T38 y393 t369).f0, (rd_T38 y393 t369).f1, a2, (⟨(rd_T38 y393 t369).f3.f0, (rd_T38 y393 t369).f3.f1, (rd_T38 y393 t369).f3.f2⟩ : S29)⟩ : S38)) (k38_mkM _ _ _ (⟨(rd_T38 y393 t369).f0, (rd_T38 y393 t369).f1, a2, (⟨(rd_T38 y393 t369).f3.f0, (rd_T38 y393 t369).f3.f1, (rd_T38 y393 t369).f3.f2⟩ : S29)⟩ : S38) ) (fun _ hk => by first | exact hk | grind)
         have hx104_2 := hcc104 2 _ rfl
         (try simp only [show (k38).sz = 6 from rfl, Nat.mul_one, Nat.add_zero] at hx104_2)
         have hf104_2 := hfr104 2
         (try simp only [show (k38).sz = 6 from rfl, Nat.mul_one, Nat.add_zero] at hf104_2)
         clear hcl104 hcc104 hfr104 hM104
         try go_wp2_with (first | ((with_reducible refine gate_store (t := 4) (p := 76) rfl ?_); refine store_event (t := 4) (p := 76) (v := ?vo_w105) (w1 := (w101.setCell ⟨go67, (t369 : Int).toNat * 6 + 2, none⟩ (.bool a2))) ?hg ?ho ?hn ?hr ?_; (case ho => rfl); (case hg => rfl); (case hn => rfl); (case hr => first | (go_simp; done) | (go_simp; rfl)); intro w105 hw; have hg : w101.grownBy w105 (some go67) := (by rw [hw]; exact HP104.2); have hp_ : Kd.R k38 38 w105 w.heap.size (fun _ => True) (.slice (some ⟨go67, 0, none⟩) t374.length co81) y394 := (by rw [hw, Ny394.out]; exact HP104.1); clear HP104; replace BK363 := Aside0.mk (blk_grown (g := gb363) (o := .cells #[.int .i64 a0_0, .int .i64 a0_1, .int .i64 a0_2, .int .i64 a0_3, .slice (some ad378) l0_4.length c0_4] 32 (0, 0)) (bk_ BK363) hg (Kd.R_ne HO376.out BK363.out (by decide))); replace BK364 := Aside0.mk (blk_grown (g := gb364) (o := .cells #[.int .i64 a1_0, .int .i64 a1_1, .int .i64 a1_2] 29 (0, 0)) (bk_ BK364) hg (Kd.R_ne HO376.out BK364.out (by decide))); replace BK365 := Aside0.mk (blk_grown (g := gb365) (o := .cells #[.int .i64 0, .int .i64 0, .int .i64 0, .int .i64 0, .slice none 0 0] 32 (0, 0)) (bk_ BK365) hg (Kd.R_ne HO376.out BK365.out (by decide))); replace BK377 := Aside0.mk (blk_grown (g := gb377) (o := .cells #[.int .i64 t370, .int .i64 t379, .int .i64 t380, .int .i64 t381, .slice (some ⟨go67, 0, none⟩) t374.length co81] 32 (0, 0)) (bk_ BK377) hg (Kd.R_ne HO376.out BK377.out (by decide))); replace BK389 := Aside0.mk (blk_grown (g := gb389) (o := .cells #[.int .i64 t385, .int .i64 t386, .int .i64 t387] 29 (0, 0)) (bk_ BK389) hg (Kd.R_ne HO376.out BK389.out (by decide))); replace HO376 := Aside0.mk (hp_); replace HB := Aside0.mk ((by rw [hw]; exact below_set (HB.out) GB67.out : Below w.heap.size w w105)); clear hg hw hp_; obtain ⟨hcz106_0, hcz106_1, hcz106_2, hcz106_3, hcz106_4, hfz106_0, hfz106_1, hfz106_2, hfz106_3, hfz106_4⟩ := bz5_ BK377; have hnb107 := NB365_364.out; have hnc107 := NB364_365.out; have hnb108 := NB365_389.out; have hnc108 := NB389_365.out; obtain ⟨hcz109_0, hcz109_1, hcz109_2, hcz109_3, hcz109_4, hfz109_0, hfz109_1, hfz109_2, hfz109_3, hfz109_4⟩ := bz5_ BK365))
         refine bodyPost_ret (results_ct rfl _ _ gb365 32 #[.int .i64 t370, .int .i64 t379, .int .i64 t380, .int .i64 t381, .slice (some ⟨go67, 0, none⟩) t374.length co81] (0, 0) _ rfl (by (with_reducible repeat (first | refine blk_drewN ?_ _ | refine blk_drew ?_ | refine blk_alloc ?_ _)); refine blk_put (cs := #[.int .i64 t370, .int .i64 t379, .int .i64 t380, .int .i64 t381, .slice none 0 0]) ?_ 4 _ rfl; (with_reducible repeat (first | refine blk_drewN ?_ _ | refine blk_drew ?_ | refine blk_alloc ?_ _)); refine blk_put (cs := #[.int .i64 t370, .int .i64 t379, .int .i64 t380, .int .i64 0, .slice none 0 0]) ?_ 3 _ rfl; (with_reducible repeat (first | refine blk_drewN ?_ _ | refine blk_drew ?_ | refine blk_alloc ?_ _)); refine blk_put (cs := #[.int .i64 t370, .int .i64 t379, .int .i64 0, .int .i64 0, .slice none 0 0]) ?_ 2 _ rfl; (with_reducible repeat (first | refine blk_drewN ?_ _ | refine blk_drew ?_ | refine blk_alloc ?_ _)); refine blk_put (cs := #[.int .i64 t370, .int .i64 0, .int .i64 0, .int .i64 0, .slice none 0 0]) ?_ 1 _ rfl; (with_reducible repeat (first | refine blk_drewN ?_ _ | refine blk_drew ?_ | refine blk_alloc ?_ _)); refine blk_put (cs := #[.int .i64 0, .int .i64 0, .int .i64 0, .int .i64 0, .slice none 0 0]) ?_ 0 _ rfl; exact bk_ BK365) Try.underlying32 rfl (by kernel_rfl)) rfl ?_
         exact ⟨_, by first | rfl | (simp [errW_none, errW_some] <;> rfl) | (simp [*, errW_none, errW_some] <;> rfl), by (with_reducible repeat (first | apply Kd.R_alloc | apply Kd.R_drewN | apply Kd.R_drew)); exact Kd.R_mono (Kd.R_far (p := ⟨gb365, 4, none⟩) (Kd.R_far (p := ⟨gb365, 3, none⟩) (Kd.R_far (p := ⟨gb365, 2, none⟩) (Kd.R_far (p := ⟨gb365, 1, none⟩) (Kd.R_far (p := ⟨gb365, 0, none⟩) (Kd.R_types HO376.out BK365.out (by decide)) (fun _ hk => by first | exact hk.2 | grind) (.int .i64 t370)) (fun _ hk => by first | exact hk.2 | grind) (.int .i64 t379)) (fun _ hk => by first | exact hk.2 | grind) (.int .i64 t380)) (fun _ hk => by first | exact hk.2 | grind) (.int .i64 t381)) (fun _ hk => by first | exact hk.2 | grind) (.slice (some ⟨go67, 0, none⟩) t374.length co81)) (fun _ hk => by first | exact trivial | grind), bf_ HB⟩
        ·rw [if_neg c66] at H
         exact absurd H (by simp)
      ·rw [if_neg c37] at H
       exact absurd H (by simp)
     ·rw [if_neg c36] at H
      exact absurd H (by simp)

end Go.Proofs.Ytljhaoiopokmfaa.PFnExactFairServe
