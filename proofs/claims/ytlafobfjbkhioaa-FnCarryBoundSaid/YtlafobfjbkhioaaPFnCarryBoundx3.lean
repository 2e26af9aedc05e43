-- printed by a program of this session (wip/printx) out of the translation; Lean checks it
import Derived.Test.YtlafobfjbkhioaaVFnCarryBound
import Derived.Test.YtlafobfjbkhioaaPFnCarryBoundx0
import Derived.Test.YtlafobfjbkhioaaPFnCarryBoundx2
namespace Go.Proofs.Ytlafobfjbkhioaa.PFnCarryBound
open Go.RowKit Go.Proofs.YtlafobfjbkhioaaW.PrintWords Go.Proofs.YtlafobfjbkhioaaW.PrintLast Go.Proofs.YtlafobfjbkhioaaW.PrintMore
attribute [local go_sem] max2_int min2_int max_two min_two max_three min_three max_four min_four   -- for this text's walks alone
set_option linter.unusedVariables false
set_option linter.unusedSimpArgs false

/-! ### spec_Charge: function 63 -/
mutual
def spec_Charge.j0 : Nat → Bool → Int → Int → Int → Int → Int → Int → Option (Int × Int × Int × Int × Int × Int)
  | 0, _, _, _, _, _, _, _ => none
  | k + 1, x17, x273000, x273001, x273002, x274000, x274001, x274002 => if x17 = true then (some (0, 0, 0, 0, 0, 0)) else ((spec_l13List.f x273000 x273001 x273002).bind fun t278 => ((spec_l13List.f x274000 x274001 x274002).bind fun t281 => (spec_Charge.l0 k t278 t281 (([0, 0, 0] : List Int)) 0)))
def spec_Charge.l0 : Nat → List Int → List Int → List Int → Int → Option (Int × Int × Int × Int × Int × Int)
  | 0, _, _, _, _ => none
  | k + 1, x6, x7, x8, x9 => if x9 < 3 then (if 0 ≤ x9 then (if x9 < (x6.length : Int) then (if x9 < (x7.length : Int) then ((spec_Clip.f (wrap64 ((rd x6 x9) + (rd x7 x9))) 1 2000).bind fun t289 => (if x9 < (x8.length : Int) then ((some (x8.set (x9 : Int).toNat t289 : List Int)).bind fun y290 => (spec_Charge.l0 k x6 (x7.set (x9 : Int).toNat (wrap64 ((wrap64 ((rd x7 x9) + (rd x6 x9))) - (rd y290 x9)))) y290 (wrap64 (x9 + 1)))) else (none))) else (none)) else (none)) else (none)) else ((spec_l13Of.f x8).bind fun bt295 => ((spec_l13Of.f x7).bind fun bt298 => (some (bt295.1, bt295.2.1, bt295.2.2, bt298.1, bt298.2.1, bt298.2.2))))
end
def spec_Charge.f (k : Nat) (a0_0 : Int) (a0_1 : Int) (a0_2 : Int) (a1_0 : Int) (a1_1 : Int) (a1_2 : Int) : Option (Int × Int × Int × Int × Int × Int) := (spec_CostOk.f a0_0 a0_1 a0_2).bind fun t276 => (if t276 = true then ((spec_CarryOk.f a1_0 a1_1 a1_2).bind fun t277 => (spec_Charge.j0 k (!t277) a0_0 a0_1 a0_2 a1_0 a1_1 a1_2)) else (spec_Charge.j0 k true a0_0 a0_1 a0_2 a1_0 a1_1 a1_2))
theorem spec_Charge.mono_l : ∀ k, (∀ y0 y1 y2 y3 y4 y5 y6, LeO (spec_Charge.j0 k y0 y1 y2 y3 y4 y5 y6) (spec_Charge.j0 (k + 1) y0 y1 y2 y3 y4 y5 y6)) ∧ (∀ y0 y1 y2 y3, LeO (spec_Charge.l0 k y0 y1 y2 y3) (spec_Charge.l0 (k + 1) y0 y1 y2 y3))
 | 0 => ⟨fun _ _ _ _ _ _ _ r h => by simp [spec_Charge.j0] at h, fun _ _ _ _ r h => by simp [spec_Charge.l0] at h⟩
 | k + 1 => by
  obtain ⟨ih0, ih1⟩ := spec_Charge.mono_l k
  refine ⟨?_, ?_⟩
  ·intro y0 y1 y2 y3 y4 y5 y6
   unfold spec_Charge.j0
   repeat' first
   | (with_reducible exact ih0 _ _ _ _ _ _ _)
   | (with_reducible exact ih1 _ _ _ _)
   | (with_reducible exact LeO.refl _)
   | (with_reducible exact LeO.none _)
   | (with_reducible refine LeO.ite ?_ ?_)
   | (with_reducible refine LeO.bind ?_ (fun _ => ?_))
   | exact ih0 _ _ _ _ _ _ _
   | exact ih1 _ _ _ _
   | exact LeO.none _
   | refine LeO.ite ?_ ?_
   | refine LeO.bind ?_ (fun _ => ?_)
  ·intro y0 y1 y2 y3
   unfold spec_Charge.l0
   repeat' first
   | (with_reducible exact ih0 _ _ _ _ _ _ _)
   | (with_reducible exact ih1 _ _ _ _)
   | (with_reducible exact LeO.refl _)
   | (with_reducible exact LeO.none _)
   | (with_reducible refine LeO.ite ?_ ?_)
   | (with_reducible refine LeO.bind ?_ (fun _ => ?_))
   | exact ih0 _ _ _ _ _ _ _
   | exact ih1 _ _ _ _
   | exact LeO.none _
   | refine LeO.ite ?_ ?_
   | refine LeO.bind ?_ (fun _ => ?_)
theorem spec_Charge.mono : ∀ a0 a1 a2 a3 a4 a5 k, LeO (spec_Charge.f k a0 a1 a2 a3 a4 a5) (spec_Charge.f (k + 1) a0 a1 a2 a3 a4 a5) := by
 intro a0 a1 a2 a3 a4 a5 k
 obtain ⟨ih0, ih1⟩ := spec_Charge.mono_l k
 unfold spec_Charge.f
 repeat' first
   | (with_reducible exact ih0 _ _ _ _ _ _ _)
   | (with_reducible exact ih1 _ _ _ _)
   | (with_reducible exact LeO.refl _)
   | (with_reducible exact LeO.none _)
   | (with_reducible refine LeO.ite ?_ ?_)
   | (with_reducible refine LeO.bind ?_ (fun _ => ?_))
   | exact ih0 _ _ _ _ _ _ _
   | exact ih1 _ _ _ _
   | exact LeO.none _
   | refine LeO.ite ?_ ?_
   | refine LeO.bind ?_ (fun _ => ?_)
def spec_Charge.T9 : Bool × List (List Nat × List Nat) := (true, [([], []), ([], []), ([], []), ([], []), ([2, 3], [2, 3]), ([4], [4]), ([], []), ([], []), ([6, 7], [6, 7]), ([8], [8]), ([5, 9], [5, 9]), ([10], [10]), ([0, 1, 0, 1, 2, 3, 4, 5, 6, 7, 8, 9, 10, 11], [0, 1]), ([12, 11, 11, 0, 1, 2, 3, 4, 5, 6, 7, 8, 9, 10, 11], [11, 12])])
def spec_Charge.B9 : List Nat := [0, 0, 0, 0, 12, 28, 0, 0, 192, 448, 1020, 2044, 4095, 8191]
theorem spec_Charge.tab9 : rtab .any (opsOf Try.f63 9) = spec_Charge.T9 := by kernel_rfl
theorem spec_Charge.bits9 : waitsOk spec_Charge.T9.2 spec_Charge.B9 = true := by kernel_rfl
def spec_Charge.T10 : Bool × List (List Nat × List Nat) := (true, [([], []), ([], []), ([], []), ([], []), ([2, 3], [2, 3]), ([4], [4]), ([], []), ([], []), ([6, 7], [6, 7]), ([8], [8]), ([5, 9], [5, 9]), ([], []), ([], []), ([11, 12], [11, 12]), ([13], [13]), ([10, 14], [10, 14]), ([0, 1, 0, 1, 2, 3, 4, 5, 6, 7, 8, 9, 10, 11, 12, 13, 14, 15], [0, 1]), ([16, 15, 0, 1, 2, 3, 4, 5, 6, 7, 8, 9, 10, 11, 12, 13, 14, 15], [15, 16])])
def spec_Charge.B10 : List Nat := [0, 0, 0, 0, 12, 28, 0, 0, 192, 448, 1020, 0, 0, 6144, 14336, 32764, 65535, 131071]
theorem spec_Charge.tab10 : rtab .any (opsOf Try.f63 10) = spec_Charge.T10 := by kernel_rfl
theorem spec_Charge.bits10 : waitsOk spec_Charge.T10.2 spec_Charge.B10 = true := by kernel_rfl
set_option maxHeartbeats 8000000 in
set_option maxRecDepth 100000 in
theorem spec_Charge.calls (k : Nat) (a0_0 : Int) (a0_1 : Int) (a0_2 : Int) (a1_0 : Int) (a1_1 : Int) (a1_2 : Int) (r1 : Int) (r2 : Int) (r3 : Int) (r4 : Int) (r5 : Int) (r6 : Int) (w : World) (h : spec_Charge.f k a0_0 a0_1 a0_2 a1_0 a1_1 a1_2 = some (r1, r2, r3, r4, r5, r6)) :
  Calls Try.prog 63 #[.agg #[.int .i64 a0_0, .int .i64 a0_1, .int .i64 a0_2], .agg #[.int .i64 a1_0, .int .i64 a1_1, .int .i64 a1_2]] w fun e w' => e = .returned (.tuple #[.agg #[.int .i64 r1, .int .i64 r2, .int .i64 r3], .agg #[.int .i64 r4, .int .i64 r5, .int .i64 r6]]) ∧ Below w.heap.size w w' := by
 have hu46 := Try.underlying46; have HB := Aside0.mk (Below.refl w.heap.size w)
 have H : ((spec_CostOk.f a0_0 a0_1 a0_2).bind fun t276 => (if t276 = true then ((spec_CarryOk.f a1_0 a1_1 a1_2).bind fun t277 => (spec_Charge.j0 k (!t277) a0_0 a0_1 a0_2 a1_0 a1_1 a1_2)) else (spec_Charge.j0 k true a0_0 a0_1 a0_2 a1_0 a1_1 a1_2))) = some (r1, r2, r3, r4, r5, r6) := h
 clear h
 have HC3 := Aside0.mk H
 clear H
 go_enter Try.func63, Try.ntmps63
 go_upto_region 1 with (first | ((with_reducible refine gd_ 2 rfl ?_); refine bv_ 2 #[.int .i64 a0_0, .int .i64 a0_1, .int .i64 a0_2] 46 ?_; intro gb272 hg w4 hbox hb; have BK272 := Aside0.mk (hbox); have GW272 := gw_ HB hg; have GE272 := gw_ HB hg; replace HB := Aside0.mk (below_step (be_ HB) hb); clear hb hbox hg) | ((with_reducible refine gd_ 3 rfl ?_); refine bv_ 3 #[.int .i64 a1_0, .int .i64 a1_1, .int .i64 a1_2] 46 ?_; intro gb273 hg w5 hbox hb; have BK273 := Aside0.mk (hbox); have GW273 := gw_ HB hg; have GE273 := gw_ HB hg; replace HB := Aside0.mk (below_step (bf_ HB) hb); have NB272_273 := nl_ BK272 hg; have NB273_272 := ng_ BK272 hg; replace BK272 := bb_ BK272 hb; clear hb hbox hg) | ((with_reducible refine gd_ 4 rfl ?_); refine bv_ 4 #[.int .i64 0, .int .i64 0, .int .i64 0] 46 ?_; intro gb274 hg w6 hbox hb; have BK274 := Aside0.mk (hbox); have GW274 := gw_ HB hg; have GE274 := gw_ HB hg; replace HB := Aside0.mk (below_step (bf_ HB) hb); have NB272_274 := nl_ BK272 hg; have NB274_272 := ng_ BK272 hg; replace BK272 := bb_ BK272 hb; have NB273_274 := nl_ BK273 hg; have NB274_273 := ng_ BK273 hg; replace BK273 := bb_ BK273 hb; clear hb hbox hg) | ((with_reducible refine gd_ 5 rfl ?_); refine bv_ 5 #[.int .i64 0, .int .i64 0, .int .i64 0] 46 ?_; intro gb275 hg w7 hbox hb; have BK275 := Aside0.mk (hbox); have GW275 := gw_ HB hg; have GE275 := gw_ HB hg; replace HB := Aside0.mk (below_step (bf_ HB) hb); have NB272_275 := nl_ BK272 hg; have NB275_272 := ng_ BK272 hg; replace BK272 := bb_ BK272 hb; have NB273_275 := nl_ BK273 hg; have NB275_273 := ng_ BK273 hg; replace BK273 := bb_ BK273 hb; have NB274_275 := nl_ BK274 hg; have NB275_274 := ng_ BK274 hg; replace BK274 := bb_ BK274 hb; clear hb hbox hg))
 (try simp only [Act.put, ls0_, ls1_, ls2_])
 go_cut [17] (fun v17 wc => ∃ (kq : Nat) (x17_2 : Bool), v17 = .bool x17_2 ∧ Aside0 (spec_Charge.j0 kq x17_2 a0_0 a0_1 a0_2 a1_0 a1_1 a1_2 = some (r1, r2, r3, r4, r5, r6)) ∧ Aside0 (kq ≤ k) ∧ Aside0 (wc.heap[gb272]? = some (.cells #[.int .i64 a0_0, .int .i64 a0_1, .int .i64 a0_2] 46 (0, 0))) ∧ Aside0 (wc.heap[gb273]? = some (.cells #[.int .i64 a1_0, .int .i64 a1_1, .int .i64 a1_2] 46 (0, 0))) ∧ Aside0 (wc.heap[gb274]? = some (.cells #[.int .i64 0, .int .i64 0, .int .i64 0] 46 (0, 0))) ∧ Aside0 (wc.heap[gb275]? = some (.cells #[.int .i64 0, .int .i64 0, .int .i64 0] 46 (0, 0))) ∧ Aside0 (Below w.heap.size w wc))
 case first =>
  have H := HC3.out
  clear HC3
  replace H := Option.bind_eq_some_iff.mp H
  obtain ⟨t276, A80, H⟩ := H
  replace H : (if t276 = true then ((spec_CarryOk.f a1_0 a1_1 a1_2).bind fun t277 => (spec_Charge.j0 k (!t277) a0_0 a0_1 a0_2 a1_0 a1_1 a1_2)) else (spec_Charge.j0 k true a0_0 a0_1 a0_2 a1_0 a1_1 a1_2)) = some (r1, r2, r3, r4, r5, r6) := H
  have A8 := Aside0.mk A80
  clear A80
  by_cases c9 : t276 = true
  ·subst c9
   have H1 : ((spec_CarryOk.f a1_0 a1_1 a1_2).bind fun t277 => (spec_Charge.j0 k (!t277) a0_0 a0_1 a0_2 a1_0 a1_1 a1_2)) = some (r1, r2, r3, r4, r5, r6) := by rw [if_pos rfl] at H; exact H
   clear H
   have H := H1
   clear H1
   replace H := Option.bind_eq_some_iff.mp H
   obtain ⟨t277, A100, H⟩ := H
   replace H : (spec_Charge.j0 k (!t277) a0_0 a0_1 a0_2 a1_0 a1_1 a1_2) = some (r1, r2, r3, r4, r5, r6) := H
   have A10 := Aside0.mk A100
   clear A100
   have H' := Aside0.mk H
   clear H; have hnb11 := NB272_273.out; have hnc11 := NB273_272.out; have hnb12 := NB272_274.out; have hnc12 := NB274_272.out; have hnb13 := NB272_275.out; have hnc13 := NB275_272.out; obtain ⟨hcz14_0, hcz14_1, hcz14_2, hfz14_0, hfz14_1, hfz14_2⟩ := bz3_ BK272
   go_wp2_with (first | ((with_reducible refine gc_ 61 rfl ?_); refine gl_ 11 Try.func61 #[.agg #[.int .i64 a0_0, .int .i64 a0_1, .int .i64 a0_2]] ?_; (with_reducible refine (spec_CostOk.calls a0_0 a0_1 a0_2 true _ A8.out).mono ?_); rintro e w15 ⟨rfl, hb⟩; refine ⟨_, rfl, ?_⟩; replace BK272 := bb_ BK272 hb; replace BK273 := bb_ BK273 hb; replace BK274 := bb_ BK274 hb; replace BK275 := bb_ BK275 hb; replace HB := Aside0.mk (below_step (bf_ HB) hb); (try clear hb); (try clear hb2); (try clear hk); (try clear hi); have hnb16 := NB273_274.out; have hnc16 := NB274_273.out; have hnb17 := NB273_275.out; have hnc17 := NB275_273.out; obtain ⟨hcz18_0, hcz18_1, hcz18_2, hfz18_0, hfz18_1, hfz18_2⟩ := bz3_ BK273) | (go_at_call 125; (with_reducible refine (spec_CarryOk.calls a1_0 a1_1 a1_2 t277 _ A10.out).mono ?_); rintro e w19 ⟨rfl, hb⟩; replace BK272 := bb_ BK272 hb; replace BK273 := bb_ BK273 hb; replace BK274 := bb_ BK274 hb; replace BK275 := bb_ BK275 hb; replace HB := Aside0.mk (below_step (bf_ HB) hb); (try clear hb); (try clear hb2); (try clear hk); (try clear hi)))
   go_meet
   case rel => exact ⟨_, (!t277), (by first | rfl | (simp; done) | (simp [*]; done)), H', ⟨by first | omega | exact Nat.le_refl _⟩, ⟨bk_ BK272⟩, ⟨bk_ BK273⟩, ⟨bk_ BK274⟩, ⟨bk_ BK275⟩, ⟨bf_ HB⟩⟩
  ·replace c9 := Bool.eq_false_iff.mpr c9
   subst c9
   have H1 : (spec_Charge.j0 k true a0_0 a0_1 a0_2 a1_0 a1_1 a1_2) = some (r1, r2, r3, r4, r5, r6) := by rw [if_neg (show ¬ (false = true) by decide)] at H; exact H
   clear H
   have H := H1
   clear H1
   have H' := Aside0.mk H
   clear H; have hnb20 := NB272_273.out; have hnc20 := NB273_272.out; have hnb21 := NB272_274.out; have hnc21 := NB274_272.out; have hnb22 := NB272_275.out; have hnc22 := NB275_272.out; obtain ⟨hcz23_0, hcz23_1, hcz23_2, hfz23_0, hfz23_1, hfz23_2⟩ := bz3_ BK272
   go_wp2_with (first | ((with_reducible refine gc_ 61 rfl ?_); refine gl_ 11 Try.func61 #[.agg #[.int .i64 a0_0, .int .i64 a0_1, .int .i64 a0_2]] ?_; (with_reducible refine (spec_CostOk.calls a0_0 a0_1 a0_2 false _ A8.out).mono ?_); rintro e w24 ⟨rfl, hb⟩; refine ⟨_, rfl, ?_⟩; replace BK272 := bb_ BK272 hb; replace BK273 := bb_ BK273 hb; replace BK274 := bb_ BK274 hb; replace BK275 := bb_ BK275 hb; replace HB := Aside0.mk (below_step (bf_ HB) hb); (try clear hb); (try clear hb2); (try clear hk); (try clear hi)))
   go_meet
   case rel => exact ⟨_, (true), (by first | rfl | (simp; done) | (simp [*]; done)), H', ⟨by first | omega | exact Nat.le_refl _⟩, ⟨bk_ BK272⟩, ⟨bk_ BK273⟩, ⟨bk_ BK274⟩, ⟨bk_ BK275⟩, ⟨bf_ HB⟩⟩
 case rest =>
  clear HC3; (try clear c1); (try clear c2); (try clear p2); (try clear c6); (try clear c9); (try clear c11); (try clear c12); (try clear c13); (try clear c16); (try clear c17); (try clear c20); (try clear c21); (try clear c22); (try clear hcz14_0 hcz14_1 hcz14_2 hfz14_0 hfz14_1 hfz14_2); (try clear hcz18_0 hcz18_1 hcz18_2 hfz18_0 hfz18_1 hfz18_2); (try clear hcz23_0 hcz23_1 hcz23_2 hfz23_0 hfz23_1 hfz23_2)
  obtain ⟨kq, x17_2, rfl, HA, HJ2, BK272, BK273, BK274, BK275, HB⟩ := hcut
  cases kq with
  | zero => exact absurd HA.out (by simp [spec_Charge.j0])
  | succ kj2 =>
   have H := HA.out
   clear HA
   simp only [spec_Charge.j0] at H
   by_cases c25 : x17_2 = true
   ·subst c25
    have H1 : (some (0, 0, 0, 0, 0, 0)) = some (r1, r2, r3, r4, r5, r6) := by rw [if_pos rfl] at H; exact H
    clear H
    have H := H1
    clear H1
    simp only [Option.some.injEq, Prod.mk.injEq] at H
    obtain ⟨rfl, rfl, rfl, rfl, rfl, rfl⟩ := H
    have hnb26 := NB274_272.out; have hnc26 := NB272_274.out; have hnb27 := NB274_273.out; have hnc27 := NB273_274.out; have hnb28 := NB274_275.out; have hnc28 := NB275_274.out; obtain ⟨hcz29_0, hcz29_1, hcz29_2, hfz29_0, hfz29_1, hfz29_2⟩ := bz3_ BK274; have hnb30 := NB275_272.out; have hnc30 := NB272_275.out; have hnb31 := NB275_273.out; have hnc31 := NB273_275.out; obtain ⟨hcz32_0, hcz32_1, hcz32_2, hfz32_0, hfz32_1, hfz32_2⟩ := bz3_ BK275
    go_wp2
    refine bodyPost_ret (results_cc rfl _ _ gb274 gb275 46 46 #[.int .i64 0, .int .i64 0, .int .i64 0] #[.int .i64 0, .int .i64 0, .int .i64 0] (0, 0) (0, 0) _ _ rfl (by (with_reducible repeat (first | refine blk_drewN ?_ _ | refine blk_drew ?_ | refine blk_alloc ?_ _)); refine blk_far ?_ NB274_275.out _; (with_reducible repeat (first | refine blk_drewN ?_ _ | refine blk_drew ?_ | refine blk_alloc ?_ _)); refine blk_far ?_ NB274_275.out _; (with_reducible repeat (first | refine blk_drewN ?_ _ | refine blk_drew ?_ | refine blk_alloc ?_ _)); refine blk_far ?_ NB274_275.out _; (with_reducible repeat (first | refine blk_drewN ?_ _ | refine blk_drew ?_ | refine blk_alloc ?_ _)); refine blk_put (cs := #[.int .i64 0, .int .i64 0, .int .i64 0]) ?_ 2 _ rfl; (with_reducible repeat (first | refine blk_drewN ?_ _ | refine blk_drew ?_ | refine blk_alloc ?_ _)); refine blk_put (cs := #[.int .i64 0, .int .i64 0, .int .i64 0]) ?_ 1 _ rfl; (with_reducible repeat (first | refine blk_drewN ?_ _ | refine blk_drew ?_ | refine blk_alloc ?_ _)); refine blk_put (cs := #[.int .i64 0, .int .i64 0, .int .i64 0]) ?_ 0 _ rfl; exact bk_ BK274) Try.underlying46 rfl (by kernel_rfl) rfl (by (with_reducible repeat (first | refine blk_drewN ?_ _ | refine blk_drew ?_ | refine blk_alloc ?_ _)); refine blk_put (cs := #[.int .i64 0, .int .i64 0, .int .i64 0]) ?_ 2 _ rfl; (with_reducible repeat (first | refine blk_drewN ?_ _ | refine blk_drew ?_ | refine blk_alloc ?_ _)); refine blk_put (cs := #[.int .i64 0, .int .i64 0, .int .i64 0]) ?_ 1 _ rfl; (with_reducible repeat (first | refine blk_drewN ?_ _ | refine blk_drew ?_ | refine blk_alloc ?_ _)); refine blk_put (cs := #[.int .i64 0, .int .i64 0, .int .i64 0]) ?_ 0 _ rfl; (with_reducible repeat (first | refine blk_drewN ?_ _ | refine blk_drew ?_ | refine blk_alloc ?_ _)); refine blk_far ?_ NB275_274.out _; (with_reducible repeat (first | refine blk_drewN ?_ _ | refine blk_drew ?_ | refine blk_alloc ?_ _)); refine blk_far ?_ NB275_274.out _; (with_reducible repeat (first | refine blk_drewN ?_ _ | refine blk_drew ?_ | refine blk_alloc ?_ _)); refine blk_far ?_ NB275_274.out _; exact bk_ BK275) Try.underlying46 rfl (by kernel_rfl)) rfl ?_
    exact ⟨by first | rfl | (simp [errW_none, errW_some] <;> rfl) | (simp [*, errW_none, errW_some] <;> rfl), bf_ HB⟩
   ·replace c25 := Bool.eq_false_iff.mpr c25
    subst c25
    have H1 : ((spec_l13List.f a0_0 a0_1 a0_2).bind fun t278 => ((spec_l13List.f a1_0 a1_1 a1_2).bind fun t281 => (spec_Charge.l0 kj2 t278 t281 (([0, 0, 0] : List Int)) 0))) = some (r1, r2, r3, r4, r5, r6) := by rw [if_neg (show ¬ (false = true) by decide)] at H; exact H
    clear H
    have H := H1
    clear H1
    replace H := Option.bind_eq_some_iff.mp H
    obtain ⟨t278, A330, H⟩ := H
    replace H : ((spec_l13List.f a1_0 a1_1 a1_2).bind fun t281 => (spec_Charge.l0 kj2 t278 t281 (([0, 0, 0] : List Int)) 0)) = some (r1, r2, r3, r4, r5, r6) := H
    have A33 := Aside0.mk A330
    clear A330
    replace H := Option.bind_eq_some_iff.mp H
    obtain ⟨t281, A340, H⟩ := H
    replace H : (spec_Charge.l0 kj2 t278 t281 (([0, 0, 0] : List Int)) 0) = some (r1, r2, r3, r4, r5, r6) := H
    have A34 := Aside0.mk A340
    clear A340
    obtain ⟨y284, hy284⟩ : ∃ y_ : List Int, y_ = (([0, 0, 0] : List Int)) := ⟨_, rfl⟩
    replace H : (spec_Charge.l0 kj2 t278 t281 y284 0) = some (r1, r2, r3, r4, r5, r6) := by first | (rw [hy284]; with_reducible exact H) | (have H2_ := (Option.bind_some _ _).symm.trans H; rw [hy284]; with_reducible exact H2_) | (have H2_ := (Option.bind_some _ _).symm.trans H; with_reducible exact H2_) | with_reducible exact H | (rw [hy284]; exact H) | exact H
    have Ny284 := Aside0.mk hy284
    clear hy284
    have H' := Aside0.mk H
    clear H; have hnb35 := NB272_273.out; have hnc35 := NB273_272.out; have hnb36 := NB272_274.out; have hnc36 := NB274_272.out; have hnb37 := NB272_275.out; have hnc37 := NB275_272.out; obtain ⟨hcz38_0, hcz38_1, hcz38_2, hfz38_0, hfz38_1, hfz38_2⟩ := bz3_ BK272
    go_wp2_with (first | ((with_reducible refine gc_ 126 rfl ?_); refine gl_ 21 Try.func126 #[.agg #[.int .i64 a0_0, .int .i64 a0_1, .int .i64 a0_2]] ?_; (with_reducible refine (spec_l13List.calls a0_0 a0_1 a0_2 t278 _ A33.out).mono ?_); rintro e w39 ⟨v279, rfl, ho0, hb⟩; refine ⟨_, rfl, ?_⟩; have HO280 := Aside0.mk (Kd.R_lower ho0 (below_size (bf_ HB))); replace BK272 := bb_ BK272 hb; replace BK273 := bb_ BK273 hb; replace BK274 := bb_ BK274 hb; replace BK275 := bb_ BK275 hb; replace HB := Aside0.mk (below_step (bf_ HB) hb); (try clear hb); (try clear hb2); (try clear hk); (try clear hi); (try clear ho0); have hnb40 := NB273_274.out; have hnc40 := NB274_273.out; have hnb41 := NB273_275.out; have hnc41 := NB275_273.out; obtain ⟨hcz42_0, hcz42_1, hcz42_2, hfz42_0, hfz42_1, hfz42_2⟩ := bz3_ BK273) | ((with_reducible refine gc_ 126 rfl ?_); refine gl_ 23 Try.func126 #[.agg #[.int .i64 a1_0, .int .i64 a1_1, .int .i64 a1_2]] ?_; (with_reducible refine (spec_l13List.calls a1_0 a1_1 a1_2 t281 _ A34.out).mono ?_); rintro e w43 ⟨v282, rfl, ho0, hb⟩; refine ⟨_, rfl, ?_⟩; have HO283 := Aside0.mk (Kd.R_lower (Kd.R_new' ho0 (Kd.R_lt (kr_ HO280))) (below_size (bf_ HB))); replace HO280 := Aside0.mk (Kd.R_elder' (kr_ HO280) (Kd.R_base ho0) hb); replace BK272 := bb_ BK272 hb; replace BK273 := bb_ BK273 hb; replace BK274 := bb_ BK274 hb; replace BK275 := bb_ BK275 hb; replace HB := Aside0.mk (below_step (bf_ HB) hb); (try clear hb); (try clear hb2); (try clear hk); (try clear hi); (try clear ho0)) | ((with_reducible refine gd_ 24 rfl ?_); refine Kd.R_lit (Kd.int .i64) _ 3 ?hg (N := 24) ?hd (xs := ([0, 0, 0] : List Int)) (inner := [.int .i64 0, .int .i64 0, .int .i64 0]) (ok := fun _ => True) (okp := fun _ => True) ?hr ?hp (fun _ hk => by first | exact hk | grind) trivial (Below.refl _ _) (Nat.le_refl _) (by simp) ?_; (case hd => rfl); (case hg => rfl); (case hr => first | (go_simp; done) | (go_simp; rfl)); (case hp => exact (Reps.one (show Kd.M (Kd.int .i64) _ _ _ 0 [.int .i64 0] from rfl) (Reps.one (show Kd.M (Kd.int .i64) _ _ _ 0 [.int .i64 0] from rfl) (Reps.one (show Kd.M (Kd.int .i64) _ _ _ 0 [.int .i64 0] from rfl) (Reps.none _ _))))); intro v285 w44 ho45 hb hg_ hnew_; clear hg_ hnew_; (first | rw [← Ny284.out] at ho45 | (simp only [Int.reduceToNat] at ho45; rw [← Ny284.out] at ho45)); have HO286 := Aside0.mk (Kd.R_lower (Kd.R_new' (Kd.R_new' ho45 (Kd.R_lt (kr_ HO280))) (Kd.R_lt (kr_ HO283))) (below_size (bf_ HB))); replace HO280 := Aside0.mk (Kd.R_elder' (kr_ HO280) (Kd.R_base ho45) hb); replace HO283 := Aside0.mk (Kd.R_elder' (kr_ HO283) (Kd.R_base ho45) hb); replace BK272 := bb_ BK272 hb; replace BK273 := bb_ BK273 hb; replace BK274 := bb_ BK274 hb; replace BK275 := bb_ BK275 hb; replace HB := Aside0.mk (below_step (bf_ HB) hb); clear hb ho45))
    go_loopg [9] kj2 (fun kq v9 w' => ∃ (x7_2 : List Int) (x8_2 : List Int) (x9_2 : Int), v9 = .int .i64 x9_2 ∧ Aside0 (spec_Charge.l0 kq t278 x7_2 x8_2 x9_2 = some (r1, r2, r3, r4, r5, r6)) ∧ Aside0 (kq ≤ kj2) ∧ Aside0 (Kd.R (Kd.int .i64) 3 w' w.heap.size (fun k_ => some k_ ≠ (v282 : Value).ownBlock ∧ some k_ ≠ (v285 : Value).ownBlock) v279 t278) ∧ Aside0 (Kd.R (Kd.int .i64) 3 w' w.heap.size (fun k_ => some k_ ≠ (v279 : Value).ownBlock ∧ some k_ ≠ (v285 : Value).ownBlock) v282 x7_2) ∧ Aside0 (Kd.R (Kd.int .i64) 3 w' w.heap.size (fun k_ => some k_ ≠ (v279 : Value).ownBlock ∧ some k_ ≠ (v282 : Value).ownBlock) v285 x8_2) ∧ Aside0 (w'.heap[gb272]? = some (.cells #[.int .i64 a0_0, .int .i64 a0_1, .int .i64 a0_2] 46 (0, 0))) ∧ Aside0 (w'.heap[gb273]? = some (.cells #[.int .i64 a1_0, .int .i64 a1_1, .int .i64 a1_2] 46 (0, 0))) ∧ Aside0 (w'.heap[gb274]? = some (.cells #[.int .i64 0, .int .i64 0, .int .i64 0] 46 (0, 0))) ∧ Aside0 (w'.heap[gb275]? = some (.cells #[.int .i64 0, .int .i64 0, .int .i64 0] 46 (0, 0))) ∧ Aside0 (Below w.heap.size w w'))
    case atStart => exact ⟨(t281), (y284), (0), (by first | rfl | (simp; done) | (simp [*]; done)), H', ⟨Nat.le_refl _⟩, ⟨by (with_reducible repeat (first | apply Kd.R_alloc | apply Kd.R_drewN | apply Kd.R_drew)); exact Kd.R_mono HO280.out (fun _ hk => by first | exact ⟨hk.1.2, hk.2⟩ | grind)⟩, ⟨by (with_reducible repeat (first | apply Kd.R_alloc | apply Kd.R_drewN | apply Kd.R_drew)); exact Kd.R_mono HO283.out (fun _ hk => by first | exact ⟨hk.1.2, hk.2⟩ | grind)⟩, ⟨by (with_reducible repeat (first | apply Kd.R_alloc | apply Kd.R_drewN | apply Kd.R_drew)); exact Kd.R_mono HO286.out (fun _ hk => by first | exact ⟨hk.1.2, hk.2⟩ | grind)⟩, ⟨bk_ BK272⟩, ⟨bk_ BK273⟩, ⟨bk_ BK274⟩, ⟨bk_ BK275⟩, ⟨bf_ HB⟩⟩
    case round =>
     clear H'
     (try clear c1); (try clear c2); (try clear p2 p2); (try clear c3); (try clear c4); (try clear c6); (try clear c9); (try clear c11); (try clear c12); (try clear c13); (try clear c16); (try clear c17); (try clear c20); (try clear c21); (try clear c22); (try clear c25); (try clear c26); (try clear c27); (try clear c28); (try clear c30); (try clear c31); (try clear c35); (try clear c36); (try clear c37); (try clear c40); (try clear c41); (try clear hcz14_0 hcz14_1 hcz14_2 hfz14_0 hfz14_1 hfz14_2); (try clear hcz18_0 hcz18_1 hcz18_2 hfz18_0 hfz18_1 hfz18_2); (try clear hcz23_0 hcz23_1 hcz23_2 hfz23_0 hfz23_1 hfz23_2); (try clear hcz29_0 hcz29_1 hcz29_2 hfz29_0 hfz29_1 hfz29_2); (try clear hcz32_0 hcz32_1 hcz32_2 hfz32_0 hfz32_1 hfz32_2); (try clear hcz38_0 hcz38_1 hcz38_2 hfz38_0 hfz38_1 hfz38_2); (try clear hcz42_0 hcz42_1 hcz42_2 hfz42_0 hfz42_1 hfz42_2)
     obtain ⟨x7_2, x8_2, x9_2, rfl, HA, HK2, HO_6, HO_7, HO_8, BK272, BK273, BK274, BK275, HB⟩ := hrel
     cases gk with
     | zero => exact absurd HA.out (by simp [spec_Charge.l0])
     | succ k2 =>
      have H := HA.out
      clear HA
      simp only [spec_Charge.l0] at H
      by_cases c46 : x9_2 < 3
      ·rw [if_pos c46] at H
       have c46b0 : decide (x9_2 < 3) = true := decide_eq_true c46
       clear c46
       by_cases c47 : 0 ≤ x9_2
       ·rw [if_pos c47] at H
        have c47b0 : decide (0 ≤ x9_2) = true := decide_eq_true c47
        clear c47
        by_cases c48 : x9_2 < (t278.length : Int)
        ·rw [if_pos c48] at H
         have c48b0 : decide (x9_2 < (t278.length : Int)) = true := decide_eq_true c48
         clear c48
         by_cases c49 : x9_2 < (x7_2.length : Int)
         ·rw [if_pos c49] at H
          have c49b0 : decide (x9_2 < (x7_2.length : Int)) = true := decide_eq_true c49
          clear c49
          replace H := Option.bind_eq_some_iff.mp H
          obtain ⟨t289, A500, H⟩ := H
          replace H : (if x9_2 < (x8_2.length : Int) then ((some (x8_2.set (x9_2 : Int).toNat t289 : List Int)).bind fun y290 => (spec_Charge.l0 k2 t278 (x7_2.set (x9_2 : Int).toNat (wrap64 ((wrap64 ((rd x7_2 x9_2) + (rd t278 x9_2))) - (rd y290 x9_2)))) y290 (wrap64 (x9_2 + 1)))) else (none)) = some (r1, r2, r3, r4, r5, r6) := H
          have A50 := Aside0.mk A500
          clear A500
          by_cases c51 : x9_2 < (x8_2.length : Int)
          ·rw [if_pos c51] at H
           have c51b0 : decide (x9_2 < (x8_2.length : Int)) = true := decide_eq_true c51
           clear c51
           obtain ⟨y290, hy290⟩ : ∃ y_ : List Int, y_ = (x8_2.set (x9_2 : Int).toNat t289) := ⟨_, rfl⟩
           replace H : (spec_Charge.l0 k2 t278 (x7_2.set (x9_2 : Int).toNat (wrap64 ((wrap64 ((rd x7_2 x9_2) + (rd t278 x9_2))) - (rd y290 x9_2)))) y290 (wrap64 (x9_2 + 1))) = some (r1, r2, r3, r4, r5, r6) := by first | (rw [hy290]; with_reducible exact H) | (have H2_ := (Option.bind_some _ _).symm.trans H; rw [hy290]; with_reducible exact H2_) | (have H2_ := (Option.bind_some _ _).symm.trans H; with_reducible exact H2_) | with_reducible exact H | (rw [hy290]; exact H) | exact H
           have Ny290 := Aside0.mk hy290
           clear hy290
           obtain ⟨y294, hy294⟩ : ∃ y_ : List Int, y_ = (x7_2.set (x9_2 : Int).toNat (wrap64 ((wrap64 ((rd x7_2 x9_2) + (rd t278 x9_2))) - (rd y290 x9_2)))) := ⟨_, rfl⟩
           replace H : (spec_Charge.l0 k2 t278 y294 y290 (wrap64 (x9_2 + 1))) = some (r1, r2, r3, r4, r5, r6) := by first | (rw [hy294]; with_reducible exact H) | (have H2_ := (Option.bind_some _ _).symm.trans H; rw [hy294]; with_reducible exact H2_) | (have H2_ := (Option.bind_some _ _).symm.trans H; with_reducible exact H2_) | with_reducible exact H | (rw [hy294]; exact H) | exact H
           have Ny294 := Aside0.mk hy294
           clear hy294
           have H' := Aside0.mk H
           clear H
           try go_wp2
           replace HO_6 := Aside0.mk (Kd.R_drew HO_6.out); replace HO_7 := Aside0.mk (Kd.R_drew HO_7.out); replace HO_8 := Aside0.mk (Kd.R_drew HO_8.out); replace BK272 := Aside0.mk (blk_drew BK272.out); replace BK273 := Aside0.mk (blk_drew BK273.out); replace BK274 := Aside0.mk (blk_drew BK274.out); replace BK275 := Aside0.mk (blk_drew BK275.out); replace HB := Aside0.mk (below_drew1 HB.out)
           obtain ⟨Ao55, co55, eo55⟩ := Kd.R_slice HO_6.out
           (first | subst eo55 | (injection eo55 with f1_ f2_ f3_; have f4_ := f1_.symm; have f5_ := f3_.symm; clear f1_ f2_ f3_; subst f4_; subst f5_))
           have p287 : 0 ≤ (x9_2 : Int) := od_
           have q287 : x9_2 < (t278.length : Int) := od_
           obtain ⟨ad287, e287, hx287_0⟩ := Kd.at_int (Kd.R_reads' HO_6.out).2.2 x9_2 p287 q287
           cases e287
           replace p287 := eq_true p287
           replace q287 := eq_true q287
           obtain ⟨Ao56, co56, eo56⟩ := Kd.R_slice HO_7.out
           (first | subst eo56 | (injection eo56 with f1_ f2_ f3_; have f4_ := f1_.symm; have f5_ := f3_.symm; clear f1_ f2_ f3_; subst f4_; subst f5_))
           have p288 : 0 ≤ (x9_2 : Int) := od_
           have q288 : x9_2 < (x7_2.length : Int) := od_
           obtain ⟨ad288, e288, hx288_0⟩ := Kd.at_int (Kd.R_reads' HO_7.out).2.2 x9_2 p288 q288
           cases e288
           replace p288 := eq_true p288
           replace q288 := eq_true q288
           refine start_ (n := 14) (S := fun w' => w'.cell? (ad287.add (x9_2).toNat) = some (.int .i64 (rd t278 x9_2)) ∧ w'.cell? (ad288.add (x9_2).toNat) = some (.int .i64 (rd x7_2 x9_2))) (ds := [13]) (bs 14 0) (by kernel_rfl) rfl rfl ⟨hx287_0, hx288_0⟩ (fun hHeld => ?_); refine with_tabW spec_Charge.tab9 spec_Charge.bits9 (fun HT_ HW_ => ?_)
           generalize wr.drew = w54 at HO_6 HO_7 HO_8 BK272 BK273 BK274 BK275 HB hx287_0 hx288_0 hHeld ⊢
           refine ps_ 0 29 (bs 14 1) HT_ ?_
           refine ps_ 1 30 (bs 14 2) HT_ ?_
           refine ps_ 2 31 (bs 14 3) HT_ ?_
           refine ps_ 3 32 (bs 14 4) HT_ ?_
           refine ps_ 4 33 (bs 14 5) HT_ ?_
           refine ps_ 6 35 (bm 14 95) HT_ ?_
           refine ps_ 7 36 (bm 14 223) HT_ ?_
           refine ps_ 8 37 (bm 14 479) HT_ ?_
           refine tk_ 5 34 (bs 14 9) HT_ HW_ hHeld ?_
           refine tk_ 9 38 (bs 14 10) HT_ HW_ hHeld ?_
           refine ps_ 10 39 (bs 14 11) HT_ ?_
           refine on_ 11 (some 40) (bs 14 12) HT_ (fun K hK => ?_)
           refine gs_ Try.func127 #[.int .i64 (wrap64 ((rd t278 x9_2) + (rd x7_2 x9_2))), .int .i64 1, .int .i64 2000] ?_
           with_reducible refine (spec_Clip.calls (wrap64 ((rd t278 x9_2) + (rd x7_2 x9_2))) 1 2000 t289 _ A50.out).mono ?_
           rintro e w' ⟨rfl, ⟨nd, rfl⟩⟩
           refine ⟨_, rfl, ?_⟩
           have hHeld : (fun w' => w'.cell? (ad287.add (x9_2).toNat) = some (.int .i64 (rd t278 x9_2)) ∧ w'.cell? (ad288.add (x9_2).toNat) = some (.int .i64 (rd x7_2 x9_2))) (w54.drewN nd) := hHeld
           replace HO_6 := Aside0.mk (Kd.R_drewN HO_6.out nd)
           replace HO_7 := Aside0.mk (Kd.R_drewN HO_7.out nd)
           replace HO_8 := Aside0.mk (Kd.R_drewN HO_8.out nd)
           replace BK272 := Aside0.mk (blk_drewN BK272.out nd)
           replace BK273 := Aside0.mk (blk_drewN BK273.out nd)
           replace BK274 := Aside0.mk (blk_drewN BK274.out nd)
           replace BK275 := Aside0.mk (blk_drewN BK275.out nd)
           replace HB := Aside0.mk (pw_below_drewN HB.out nd)
           generalize w54.drewN nd = w54 at HO_6 HO_7 HO_8 BK272 BK273 BK274 BK275 HB hHeld ⊢
           have p52 : 0 ≤ (x9_2 : Int) := od_
           have q52 : (x9_2 : Int) < ((x8_2.length : Int) : Int) := od_
           obtain ⟨go52, co52, eo52, gb52, gl52, cl52, HG52⟩ := Kd.R_form HO_8.out (by omega)
           (first | cases eo52 | (injection eo52 with ea_ en_ ec_; (first | subst ea_ | (injection ea_ with ea_; subst ea_)); subst ec_; clear en_))
           have GB52 := Aside0.mk gb52
           have GG52 := Aside0.mk HG52
           clear gb52 gl52 HG52
           obtain ⟨hx52_0, hf52_0⟩ := Kd.R_celln 0 HO_8.out (x9_2 : Int) p52 q52
           replace p52 := eq_true p52
           replace q52 := eq_true q52
           have HP57 := Kd.R_putn HO_8.out (x9_2 : Int) t289
           rw [← Ny290.out] at HP57
           have HQ57 := Aside0.mk HP57
           clear HP57
           refine hK.out _ _ ⟨hHeld.1, hHeld.2⟩ (fun hHeld => ?_)
           clear hK K
           refine norm_ (a' := ?_) ?_ ?_
           rotate_left
           ·show Act.put _ (some 40) _ = _
            simp only [Act.put, ls0_, ls1_, ls2_, i64_w, i32_w]
            rfl
           refine ps_ 12 41 (bs 14 13) HT_ ?_
           refine last_ (i := 13) (N := none) (bs 14 14) rfl rfl (one_of HT_.out (by kernel_rfl)) (by decide) (fun K hK => ?_)
           refine skip_ (w1 := ?_) (by rfl) rfl ?_ ?_
           rotate_left
           ·go_simp
            rfl
           refine hK.out _ _ ?_
           clear hK K
           refine done_ (done_of HT_.out (by kernel_rfl)) ?_
           try go_wp2
           generalize hW_ : (w54.setCell ⟨go52, (x9_2 : Int).toNat, none⟩ (.int .i64 t289)) = w58
           replace HO_6 : Aside0 (Kd.R (Kd.int .i64) 3 w58 w.heap.size (fun k_ => some k_ ≠ (.slice (some ad288) x7_2.length co56 : Value).ownBlock ∧ some k_ ≠ (.slice (some ⟨go52, 0, none⟩) x8_2.length co52 : Value).ownBlock) (.slice (some ad287) t278.length co55) t278) := ⟨by cases hW_; (with_reducible repeat (first | apply Kd.R_alloc | apply Kd.R_drewN | apply Kd.R_drew)); exact Kd.R_mono (Kd.R_far (p := ⟨go52, (x9_2 : Int).toNat, none⟩) (Kd.R_mono HO_6.out (fun k_ hk => by first | exact (⟨hk, fun e_ => hk.2 (by rw [e_]; rfl)⟩ : _ ∧ k_ ≠ go52) | grind)) (fun _ hk => by first | exact hk.2 | grind) (.int .i64 t289)) (fun _ hk => by first | exact ⟨hk.1.1, hk.1.2⟩ | grind)⟩
           replace HO_7 : Aside0 (Kd.R (Kd.int .i64) 3 w58 w.heap.size (fun k_ => some k_ ≠ (.slice (some ad287) t278.length co55 : Value).ownBlock ∧ some k_ ≠ (.slice (some ⟨go52, 0, none⟩) x8_2.length co52 : Value).ownBlock) (.slice (some ad288) x7_2.length co56) x7_2) := ⟨by cases hW_; (with_reducible repeat (first | apply Kd.R_alloc | apply Kd.R_drewN | apply Kd.R_drew)); exact Kd.R_mono (Kd.R_far (p := ⟨go52, (x9_2 : Int).toNat, none⟩) (Kd.R_mono HO_7.out (fun k_ hk => by first | exact (⟨hk, fun e_ => hk.2 (by rw [e_]; rfl)⟩ : _ ∧ k_ ≠ go52) | grind)) (fun _ hk => by first | exact hk.2 | grind) (.int .i64 t289)) (fun _ hk => by first | exact ⟨hk.1.1, hk.1.2⟩ | grind)⟩
           replace BK272 : Aside0 (w58.heap[gb272]? = some (.cells #[.int .i64 a0_0, .int .i64 a0_1, .int .i64 a0_2] 46 (0, 0))) := ⟨by cases hW_; (with_reducible repeat (first | refine blk_drewN ?_ _ | refine blk_drew ?_ | refine blk_alloc ?_ _)); refine blk_far ?_ (by have h_ := Kd.R_ne HO_8.out BK272.out (by decide); intro e_; exact h_ (by rw [e_]; rfl)) _; exact bk_ BK272⟩
           replace BK273 : Aside0 (w58.heap[gb273]? = some (.cells #[.int .i64 a1_0, .int .i64 a1_1, .int .i64 a1_2] 46 (0, 0))) := ⟨by cases hW_; (with_reducible repeat (first | refine blk_drewN ?_ _ | refine blk_drew ?_ | refine blk_alloc ?_ _)); refine blk_far ?_ (by have h_ := Kd.R_ne HO_8.out BK273.out (by decide); intro e_; exact h_ (by rw [e_]; rfl)) _; exact bk_ BK273⟩
           replace BK274 : Aside0 (w58.heap[gb274]? = some (.cells #[.int .i64 0, .int .i64 0, .int .i64 0] 46 (0, 0))) := ⟨by cases hW_; (with_reducible repeat (first | refine blk_drewN ?_ _ | refine blk_drew ?_ | refine blk_alloc ?_ _)); refine blk_far ?_ (by have h_ := Kd.R_ne HO_8.out BK274.out (by decide); intro e_; exact h_ (by rw [e_]; rfl)) _; exact bk_ BK274⟩
           replace BK275 : Aside0 (w58.heap[gb275]? = some (.cells #[.int .i64 0, .int .i64 0, .int .i64 0] 46 (0, 0))) := ⟨by cases hW_; (with_reducible repeat (first | refine blk_drewN ?_ _ | refine blk_drew ?_ | refine blk_alloc ?_ _)); refine blk_far ?_ (by have h_ := Kd.R_ne HO_8.out BK275.out (by decide); intro e_; exact h_ (by rw [e_]; rfl)) _; exact bk_ BK275⟩
           replace HO_8 : Aside0 (Kd.R (Kd.int .i64) 3 w58 w.heap.size (fun k_ => some k_ ≠ (.slice (some ad287) t278.length co55 : Value).ownBlock ∧ some k_ ≠ (.slice (some ad288) x7_2.length co56 : Value).ownBlock) (.slice (some ⟨go52, 0, none⟩) x8_2.length co52) y290) := ⟨by cases hW_; exact kr_ HQ57⟩
           replace HB : Aside0 (Below w.heap.size w w58) := ⟨by cases hW_; repeat (first | (with_reducible first | exact HB.out | apply below_alloc | apply pw_below_drewN | apply below_drew1 | refine below_set ?_ GB52.out | refine below_set ?_ GE272.out | refine below_set ?_ GE273.out | refine below_set ?_ GE274.out | refine below_set ?_ GE275.out) | exact HB.out)⟩
           clear hW_
           (try (rw [drewN_self w58]; generalize hq_ : World.drewN w58 _ = w58; have n0_ : Aside0 (Kd.R (Kd.int .i64) 3 w58 w.heap.size (fun k_ => some k_ ≠ (.slice (some ad288) x7_2.length co56 : Value).ownBlock ∧ some k_ ≠ (.slice (some ⟨go52, 0, none⟩) x8_2.length co52 : Value).ownBlock) (.slice (some ad287) t278.length co55) t278) := ⟨by rw [← hq_]; exact (kr_ HO_6)⟩; have n1_ : Aside0 (Kd.R (Kd.int .i64) 3 w58 w.heap.size (fun k_ => some k_ ≠ (.slice (some ad287) t278.length co55 : Value).ownBlock ∧ some k_ ≠ (.slice (some ⟨go52, 0, none⟩) x8_2.length co52 : Value).ownBlock) (.slice (some ad288) x7_2.length co56) x7_2) := ⟨by rw [← hq_]; exact (kr_ HO_7)⟩; have n2_ : Aside0 (Kd.R (Kd.int .i64) 3 w58 w.heap.size (fun k_ => some k_ ≠ (.slice (some ad287) t278.length co55 : Value).ownBlock ∧ some k_ ≠ (.slice (some ad288) x7_2.length co56 : Value).ownBlock) (.slice (some ⟨go52, 0, none⟩) x8_2.length co52) y290) := ⟨by rw [← hq_]; exact (kr_ HO_8)⟩; have n3_ : Aside0 (w58.heap[gb272]? = some (.cells #[.int .i64 a0_0, .int .i64 a0_1, .int .i64 a0_2] 46 (0, 0))) := ⟨by rw [← hq_]; exact (bk_ BK272)⟩; have n4_ : Aside0 (w58.heap[gb273]? = some (.cells #[.int .i64 a1_0, .int .i64 a1_1, .int .i64 a1_2] 46 (0, 0))) := ⟨by rw [← hq_]; exact (bk_ BK273)⟩; have n5_ : Aside0 (w58.heap[gb274]? = some (.cells #[.int .i64 0, .int .i64 0, .int .i64 0] 46 (0, 0))) := ⟨by rw [← hq_]; exact (bk_ BK274)⟩; have n6_ : Aside0 (w58.heap[gb275]? = some (.cells #[.int .i64 0, .int .i64 0, .int .i64 0] 46 (0, 0))) := ⟨by rw [← hq_]; exact (bk_ BK275)⟩; have n7_ : Aside0 (Below w.heap.size w w58) := ⟨by rw [← hq_]; exact (bf_ HB)⟩; clear HO_6 HO_7 HO_8 BK272 BK273 BK274 BK275 HB hq_; have HO_6 := n0_; have HO_7 := n1_; have HO_8 := n2_; have BK272 := n3_; have BK273 := n4_; have BK274 := n5_; have BK275 := n6_; have HB := n7_; clear n0_ n1_ n2_ n3_ n4_ n5_ n6_ n7_; have hcs272_0 := bc_ BK272 0 (.int .i64 a0_0) rfl; have hfs272_0 := blk_frozen BK272.out 0; have hcs272_1 := bc_ BK272 1 (.int .i64 a0_1) rfl; have hfs272_1 := blk_frozen BK272.out 1; have hcs272_2 := bc_ BK272 2 (.int .i64 a0_2) rfl; have hfs272_2 := blk_frozen BK272.out 2; have hcs273_0 := bc_ BK273 0 (.int .i64 a1_0) rfl; have hfs273_0 := blk_frozen BK273.out 0; have hcs273_1 := bc_ BK273 1 (.int .i64 a1_1) rfl; have hfs273_1 := blk_frozen BK273.out 1; have hcs273_2 := bc_ BK273 2 (.int .i64 a1_2) rfl; have hfs273_2 := blk_frozen BK273.out 2; have hcs274_0 := bc_ BK274 0 (.int .i64 0) rfl; have hfs274_0 := blk_frozen BK274.out 0; have hcs274_1 := bc_ BK274 1 (.int .i64 0) rfl; have hfs274_1 := blk_frozen BK274.out 1; have hcs274_2 := bc_ BK274 2 (.int .i64 0) rfl; have hfs274_2 := blk_frozen BK274.out 2; have hcs275_0 := bc_ BK275 0 (.int .i64 0) rfl; have hfs275_0 := blk_frozen BK275.out 0; have hcs275_1 := bc_ BK275 1 (.int .i64 0) rfl; have hfs275_1 := blk_frozen BK275.out 1; have hcs275_2 := bc_ BK275 2 (.int .i64 0) rfl; have hfs275_2 := blk_frozen BK275.out 2))
           replace HO_6 := Aside0.mk (Kd.R_drew HO_6.out); replace HO_7 := Aside0.mk (Kd.R_drew HO_7.out); replace HO_8 := Aside0.mk (Kd.R_drew HO_8.out); replace BK272 := Aside0.mk (blk_drew BK272.out); replace BK273 := Aside0.mk (blk_drew BK273.out); replace BK274 := Aside0.mk (blk_drew BK274.out); replace BK275 := Aside0.mk (blk_drew BK275.out); replace HB := Aside0.mk (below_drew1 HB.out)
           have p291 : 0 ≤ (x9_2 : Int) := od_
           have q291 : x9_2 < (x7_2.length : Int) := od_
           obtain ⟨ad291, e291, hx291_0⟩ := Kd.at_int (Kd.R_reads' HO_7.out).2.2 x9_2 p291 q291
           obtain rfl : ad288 = ad291 := (by injection e291)
           replace p291 := eq_true p291
           replace q291 := eq_true q291
           have p292 : 0 ≤ (x9_2 : Int) := od_
           have q292 : x9_2 < (t278.length : Int) := od_
           obtain ⟨ad292, e292, hx292_0⟩ := Kd.at_int (Kd.R_reads' HO_6.out).2.2 x9_2 p292 q292
           obtain rfl : ad287 = ad292 := (by injection e292)
           replace p292 := eq_true p292
           replace q292 := eq_true q292
           have p293 : 0 ≤ (x9_2 : Int) := od_
           have q293 : x9_2 < (y290.length : Int) := (by have h_ : (x9_2 : Int) < ((x8_2.length : Int) : Int) := od_; first | (have e_ := (Kd.R_reads' HO_8.out).1; omega) | simpa only [Ny290.out, List.length_set] using h_)
           have ql293 : ((x9_2 : Int) < ((x8_2.length : Int) : Int)) = True := eq_true (od_)
           obtain ⟨ad293, e293, hx293_0⟩ := Kd.at_int (Kd.R_reads' HO_8.out).2.2 x9_2 p293 q293
           obtain rfl : (⟨go52, 0, none⟩ : Addr) = ad293 := (by injection e293)
           (first | simp only [add_plain] at hx293_0 | simp only [add_at] at hx293_0 | simp only [Addr.add, Nat.zero_add] at hx293_0 | skip)
           replace p293 := eq_true p293
           replace q293 := eq_true q293
           have p53 : 0 ≤ (x9_2 : Int) := od_
           have q53 : (x9_2 : Int) < ((x7_2.length : Int) : Int) := od_
           obtain ⟨go53, co53, eo53, gb53, gl53, cl53, HG53⟩ := Kd.R_form HO_7.out (by omega)
           (first | cases eo53 | (injection eo53 with ea_ en_ ec_; (first | subst ea_ | (injection ea_ with ea_; subst ea_)); subst ec_; clear en_))
           have GB53 := Aside0.mk gb53
           have GG53 := Aside0.mk HG53
           clear gb53 gl53 HG53
           (first | simp only [add_plain] at hx288_0 | skip)
           (first | simp only [add_plain] at hx291_0 | skip)
           obtain ⟨hx53_0, hf53_0⟩ := Kd.R_celln 0 HO_7.out (x9_2 : Int) p53 q53
           replace p53 := eq_true p53
           replace q53 := eq_true q53
           have HP60 := Kd.R_putn HO_7.out (x9_2 : Int) (wrap64 ((wrap64 ((rd x7_2 x9_2) + (rd t278 x9_2))) - (rd y290 x9_2)))
           rw [← Ny294.out] at HP60
           have HQ60 := Aside0.mk HP60
           clear HP60
           refine start_ (n := 18) (S := fun w' => w'.cell? ⟨go53, (x9_2).toNat, none⟩ = some (.int .i64 (rd x7_2 x9_2)) ∧ w'.cell? (ad287.add (x9_2).toNat) = some (.int .i64 (rd t278 x9_2)) ∧ w'.cell? ⟨go52, (x9_2).toNat, none⟩ = some (.int .i64 (rd y290 x9_2))) (ds := [17]) (bs 18 0) (by kernel_rfl) rfl rfl ⟨hx291_0, hx292_0, hx293_0⟩ (fun hHeld => ?_); refine with_tabW spec_Charge.tab10 spec_Charge.bits10 (fun HT_ HW_ => ?_)
           generalize w58.drew = w59 at HO_6 HO_7 HO_8 BK272 BK273 BK274 BK275 HB GG53 HQ57 HQ60 hf53_0 hx288_0 hx291_0 hx292_0 hx293_0 hx53_0 hHeld ⊢
           refine ps_ 0 42 (bs 18 1) HT_ ?_
           refine ps_ 1 43 (bs 18 2) HT_ ?_
           refine ps_ 2 44 (bs 18 3) HT_ ?_
           refine ps_ 3 45 (bs 18 4) HT_ ?_
           refine ps_ 4 46 (bs 18 5) HT_ ?_
           refine ps_ 6 48 (bm 18 95) HT_ ?_
           refine ps_ 7 49 (bm 18 223) HT_ ?_
           refine ps_ 8 50 (bm 18 479) HT_ ?_
           refine ps_ 11 53 (bm 18 2527) HT_ ?_
           refine ps_ 12 54 (bm 18 6623) HT_ ?_
           refine ps_ 13 55 (bm 18 14815) HT_ ?_
           refine tk_ 5 47 (bm 18 14847) HT_ HW_ hHeld ?_
           refine tk_ 9 51 (bm 18 15359) HT_ HW_ hHeld ?_
           refine ps_ 10 52 (bs 18 14) HT_ ?_
           refine tk_ 14 56 (bs 18 15) HT_ HW_ hHeld ?_
           refine ps_ 15 57 (bs 18 16) HT_ ?_
           refine ps_ 16 58 (bs 18 17) HT_ ?_
           refine last_ (i := 17) (N := none) (bs 18 18) rfl rfl (one_of HT_.out (by kernel_rfl)) (by decide) (fun K hK => ?_)
           refine skip_ (w1 := ?_) (by rfl) rfl ?_ ?_
           rotate_left
           ·go_simp
            rfl
           refine hK.out _ _ ?_
           clear hK K
           refine done_ (done_of HT_.out (by kernel_rfl)) ?_
           try go_wp2
           go_roundg k2
           case measure => have := HJ2.out; have := HK2.out; omega
           case rel => exact ⟨(y294), (y290), (wrap64 (x9_2 + 1)), (by first | rfl | (simp; done) | (simp [*]; done)), H', ⟨by have := HJ2.out; have := HK2.out; omega⟩, ⟨by (with_reducible repeat (first | apply Kd.R_alloc | apply Kd.R_drewN | apply Kd.R_drew)); exact Kd.R_mono (Kd.R_far (p := ⟨go53, (x9_2 : Int).toNat, none⟩) (Kd.R_mono HO_6.out (fun k_ hk => by first | exact (⟨hk, fun e_ => hk.1 (by rw [e_]; rfl)⟩ : _ ∧ k_ ≠ go53) | grind)) (fun _ hk => by first | exact hk.2 | grind) (.int .i64 (wrap64 ((wrap64 ((rd x7_2 x9_2) + (rd t278 x9_2))) - (rd y290 x9_2))))) (fun _ hk => by first | exact ⟨hk.1.1, hk.1.2⟩ | grind)⟩, ⟨kr_ HQ60⟩, ⟨by (with_reducible repeat (first | apply Kd.R_alloc | apply Kd.R_drewN | apply Kd.R_drew)); exact Kd.R_mono (Kd.R_far (p := ⟨go53, (x9_2 : Int).toNat, none⟩) (Kd.R_mono HO_8.out (fun k_ hk => by first | exact (⟨hk, fun e_ => hk.2 (by rw [e_]; rfl)⟩ : _ ∧ k_ ≠ go53) | grind)) (fun _ hk => by first | exact hk.2 | grind) (.int .i64 (wrap64 ((wrap64 ((rd x7_2 x9_2) + (rd t278 x9_2))) - (rd y290 x9_2))))) (fun _ hk => by first | exact ⟨hk.1.1, hk.1.2⟩ | grind)⟩, ⟨by (with_reducible repeat (first | refine blk_drewN ?_ _ | refine blk_drew ?_ | refine blk_alloc ?_ _)); refine blk_far ?_ (by have h_ := Kd.R_ne HO_7.out BK272.out (by decide); intro e_; exact h_ (by rw [e_]; rfl)) _; exact bk_ BK272⟩, ⟨by (with_reducible repeat (first | refine blk_drewN ?_ _ | refine blk_drew ?_ | refine blk_alloc ?_ _)); refine blk_far ?_ (by have h_ := Kd.R_ne HO_7.out BK273.out (by decide); intro e_; exact h_ (by rw [e_]; rfl)) _; exact bk_ BK273⟩, ⟨by (with_reducible repeat (first | refine blk_drewN ?_ _ | refine blk_drew ?_ | refine blk_alloc ?_ _)); refine blk_far ?_ (by have h_ := Kd.R_ne HO_7.out BK274.out (by decide); intro e_; exact h_ (by rw [e_]; rfl)) _; exact bk_ BK274⟩, ⟨by (with_reducible repeat (first | refine blk_drewN ?_ _ | refine blk_drew ?_ | refine blk_alloc ?_ _)); refine blk_far ?_ (by have h_ := Kd.R_ne HO_7.out BK275.out (by decide); intro e_; exact h_ (by rw [e_]; rfl)) _; exact bk_ BK275⟩, ⟨by repeat (first | (with_reducible first | exact HB.out | apply below_alloc | apply pw_below_drewN | apply below_drew1 | refine below_set ?_ GB53.out | refine below_set ?_ GE272.out | refine below_set ?_ GE273.out | refine below_set ?_ GE274.out | refine below_set ?_ GE275.out) | exact HB.out)⟩⟩
          ·rw [if_neg c51] at H
           exact absurd H (by simp)
         ·rw [if_neg c49] at H
          exact absurd H (by simp)
        ·rw [if_neg c48] at H
         exact absurd H (by simp)
       ·rw [if_neg c47] at H
        exact absurd H (by simp)
      ·rw [if_neg c46] at H
       have c46b0 : decide (x9_2 < 3) = false := decide_eq_false c46
       clear c46
       replace H := Option.bind_eq_some_iff.mp H
       obtain ⟨⟨t295, t296, t297⟩, A610, H⟩ := H
       replace H : ((spec_l13Of.f x7_2).bind fun bt298 => (some (t295, t296, t297, bt298.1, bt298.2.1, bt298.2.2))) = some (r1, r2, r3, r4, r5, r6) := H
       have A61 := Aside0.mk A610
       clear A610
       replace H := Option.bind_eq_some_iff.mp H
       obtain ⟨⟨t298, t299, t300⟩, A620, H⟩ := H
       replace H : (some (t295, t296, t297, t298, t299, t300)) = some (r1, r2, r3, r4, r5, r6) := H
       have A62 := Aside0.mk A620
       clear A620
       simp only [Option.some.injEq, Prod.mk.injEq] at H
       obtain ⟨rfl, rfl, rfl, rfl, rfl, rfl⟩ := H
       obtain ⟨Ao63, co63, eo63⟩ := Kd.R_slice HO_8.out
       subst eo63
       go_wp2_with (first | ((with_reducible refine gc_ 128 rfl ?_); refine gl_ 60 Try.func128 #[.slice Ao63 x8_2.length co63] ?_; (with_reducible refine (spec_l13Of.calls _ _ x8_2 t295 t296 t297 _ ?side1 ?side2 A61.out).mono ?_); (case side1 => exact cr_ HO_8); (case side2 => exact (Kd.R_reads' HO_8.out).2.1); rintro e w64 ⟨rfl, hb⟩; refine ⟨_, rfl, ?_⟩; replace HO_6 := Aside0.mk (Kd.R_below (kr_ HO_6) hb); replace HO_7 := Aside0.mk (Kd.R_below (kr_ HO_7) hb); replace HO_8 := Aside0.mk (Kd.R_below (kr_ HO_8) hb); replace BK272 := bb_ BK272 hb; replace BK273 := bb_ BK273 hb; replace BK274 := bb_ BK274 hb; replace BK275 := bb_ BK275 hb; replace HB := Aside0.mk (below_step (bf_ HB) hb); (try clear hb); (try clear hb2); (try clear hk); (try clear hi); obtain ⟨Ao65, co65, eo65⟩ := Kd.R_slice HO_7.out; subst eo65) | ((with_reducible refine gc_ 128 rfl ?_); refine gl_ 62 Try.func128 #[.slice Ao65 x7_2.length co65] ?_; (with_reducible refine (spec_l13Of.calls _ _ x7_2 t298 t299 t300 _ ?side1 ?side2 A62.out).mono ?_); (case side1 => exact cr_ HO_7); (case side2 => exact (Kd.R_reads' HO_7.out).2.1); rintro e w66 ⟨rfl, hb⟩; refine ⟨_, rfl, ?_⟩; replace HO_6 := Aside0.mk (Kd.R_below (kr_ HO_6) hb); replace HO_7 := Aside0.mk (Kd.R_below (kr_ HO_7) hb); replace HO_8 := Aside0.mk (Kd.R_below (kr_ HO_8) hb); replace BK272 := bb_ BK272 hb; replace BK273 := bb_ BK273 hb; replace BK274 := bb_ BK274 hb; replace BK275 := bb_ BK275 hb; replace HB := Aside0.mk (below_step (bf_ HB) hb); (try clear hb); (try clear hb2); (try clear hk); (try clear hi); have hnb67 := NB274_272.out; have hnc67 := NB272_274.out; have hnb68 := NB274_273.out; have hnc68 := NB273_274.out; have hnb69 := NB274_275.out; have hnc69 := NB275_274.out; obtain ⟨hcz70_0, hcz70_1, hcz70_2, hfz70_0, hfz70_1, hfz70_2⟩ := bz3_ BK274; have hnb71 := NB275_272.out; have hnc71 := NB272_275.out; have hnb72 := NB275_273.out; have hnc72 := NB273_275.out; obtain ⟨hcz73_0, hcz73_1, hcz73_2, hfz73_0, hfz73_1, hfz73_2⟩ := bz3_ BK275))
       refine bodyPost_ret (results_cc rfl _ _ gb274 gb275 46 46 #[.int .i64 t295, .int .i64 t296, .int .i64 t297] #[.int .i64 t298, .int .i64 t299, .int .i64 t300] (0, 0) (0, 0) _ _ rfl (by (with_reducible repeat (first | refine blk_drewN ?_ _ | refine blk_drew ?_ | refine blk_alloc ?_ _)); refine blk_far ?_ NB274_275.out _; (with_reducible repeat (first | refine blk_drewN ?_ _ | refine blk_drew ?_ | refine blk_alloc ?_ _)); refine blk_far ?_ NB274_275.out _; (with_reducible repeat (first | refine blk_drewN ?_ _ | refine blk_drew ?_ | refine blk_alloc ?_ _)); refine blk_far ?_ NB274_275.out _; (with_reducible repeat (first | refine blk_drewN ?_ _ | refine blk_drew ?_ | refine blk_alloc ?_ _)); refine blk_put (cs := #[.int .i64 t295, .int .i64 t296, .int .i64 0]) ?_ 2 _ rfl; (with_reducible repeat (first | refine blk_drewN ?_ _ | refine blk_drew ?_ | refine blk_alloc ?_ _)); refine blk_put (cs := #[.int .i64 t295, .int .i64 0, .int .i64 0]) ?_ 1 _ rfl; (with_reducible repeat (first | refine blk_drewN ?_ _ | refine blk_drew ?_ | refine blk_alloc ?_ _)); refine blk_put (cs := #[.int .i64 0, .int .i64 0, .int .i64 0]) ?_ 0 _ rfl; exact bk_ BK274) Try.underlying46 rfl (by kernel_rfl) rfl (by (with_reducible repeat (first | refine blk_drewN ?_ _ | refine blk_drew ?_ | refine blk_alloc ?_ _)); refine blk_put (cs := #[.int .i64 t298, .int .i64 t299, .int .i64 0]) ?_ 2 _ rfl; (with_reducible repeat (first | refine blk_drewN ?_ _ | refine blk_drew ?_ | refine blk_alloc ?_ _)); refine blk_put (cs := #[.int .i64 t298, .int .i64 0, .int .i64 0]) ?_ 1 _ rfl; (with_reducible repeat (first | refine blk_drewN ?_ _ | refine blk_drew ?_ | refine blk_alloc ?_ _)); refine blk_put (cs := #[.int .i64 0, .int .i64 0, .int .i64 0]) ?_ 0 _ rfl; (with_reducible repeat (first | refine blk_drewN ?_ _ | refine blk_drew ?_ | refine blk_alloc ?_ _)); refine blk_far ?_ NB275_274.out _; (with_reducible repeat (first | refine blk_drewN ?_ _ | refine blk_drew ?_ | refine blk_alloc ?_ _)); refine blk_far ?_ NB275_274.out _; (with_reducible repeat (first | refine blk_drewN ?_ _ | refine blk_drew ?_ | refine blk_alloc ?_ _)); refine blk_far ?_ NB275_274.out _; exact bk_ BK275) Try.underlying46 rfl (by kernel_rfl)) rfl ?_
       exact ⟨by first | rfl | (simp [errW_none, errW_some] <;> rfl) | (simp [*, errW_none, errW_some] <;> rfl), bf_ HB⟩

end Go.Proofs.Ytlafobfjbkhioaa.PFnCarryBound
