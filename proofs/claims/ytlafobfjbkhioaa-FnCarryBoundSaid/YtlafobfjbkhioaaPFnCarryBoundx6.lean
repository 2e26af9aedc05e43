-- printed by a program of this session (wip/printx) out of the translation; Lean checks it
import Derived.Test.YtlafobfjbkhioaaVFnCarryBound
import Derived.Test.YtlafobfjbkhioaaPFnCarryBoundx0
import Derived.Test.YtlafobfjbkhioaaPFnCarryBoundx4
import Derived.Test.YtlafobfjbkhioaaPFnCarryBoundx5
namespace Go.Proofs.Ytlafobfjbkhioaa.PFnCarryBound
open Go.RowKit Go.Proofs.YtlafobfjbkhioaaW.PrintWords Go.Proofs.YtlafobfjbkhioaaW.PrintLast Go.Proofs.YtlafobfjbkhioaaW.PrintMore
attribute [local go_sem] max2_int min2_int max_two min_two max_three min_three max_four min_four   -- for this text's walks alone
set_option linter.unusedVariables false
set_option linter.unusedSimpArgs false

/-! ### impl_Settle: function 66 -/
def impl_Settle.j0 : Nat → Bool → Int → Int → Int → Int → Int → Int → Int → Int → Int → Option (Int × Int × Int × Bool)
  | 0, _, _, _, _, _, _, _, _, _, _ => none
  | k + 1, x21, x381000, x381001, x381002, x382000, x382001, x382002, x383000, x383001, x383002 => if x21 = true then (some (0, 0, 0, false)) else ((impl_Vec_plus.f x381000 x381001 x381002 x383000 x383001 x383002).bind fun bt387 => ((impl_Vec_minus.f bt387.1 bt387.2.1 bt387.2.2 x382000 x382001 x382002).bind fun bt390 => ((impl_CarryOk.f bt390.1 bt390.2.1 bt390.2.2).bind fun t394 => (if t394 = true then (some (bt390.1, bt390.2.1, bt390.2.2, true)) else (some (0, 0, 0, false))))))
def impl_Settle.f (k : Nat) (a0_0 : Int) (a0_1 : Int) (a0_2 : Int) (a1_0 : Int) (a1_1 : Int) (a1_2 : Int) (a2_0 : Int) (a2_1 : Int) (a2_2 : Int) : Option (Int × Int × Int × Bool) := (impl_CarryOk.f a0_0 a0_1 a0_2).bind fun t384 => (if t384 = true then ((impl_CostOk.f a1_0 a1_1 a1_2).bind fun t385 => (if t385 = true then ((impl_CostOk.f a2_0 a2_1 a2_2).bind fun t386 => (impl_Settle.j0 k (!t386) a0_0 a0_1 a0_2 a1_0 a1_1 a1_2 a2_0 a2_1 a2_2)) else (impl_Settle.j0 k true a0_0 a0_1 a0_2 a1_0 a1_1 a1_2 a2_0 a2_1 a2_2))) else (impl_Settle.j0 k true a0_0 a0_1 a0_2 a1_0 a1_1 a1_2 a2_0 a2_1 a2_2))
theorem impl_Settle.mono_l : ∀ k, (∀ y0 y1 y2 y3 y4 y5 y6 y7 y8 y9, LeO (impl_Settle.j0 k y0 y1 y2 y3 y4 y5 y6 y7 y8 y9) (impl_Settle.j0 (k + 1) y0 y1 y2 y3 y4 y5 y6 y7 y8 y9))
 | 0 => fun _ _ _ _ _ _ _ _ _ _ r h => by simp [impl_Settle.j0] at h
 | k + 1 => by
  have ih0 := impl_Settle.mono_l k
  ·intro y0 y1 y2 y3 y4 y5 y6 y7 y8 y9
   unfold impl_Settle.j0
   repeat' first
   | (with_reducible exact ih0 _ _ _ _ _ _ _ _ _ _)
   | (with_reducible exact LeO.refl _)
   | (with_reducible exact LeO.none _)
   | (with_reducible refine LeO.ite ?_ ?_)
   | (with_reducible refine LeO.bind ?_ (fun _ => ?_))
   | exact ih0 _ _ _ _ _ _ _ _ _ _
   | exact LeO.none _
   | refine LeO.ite ?_ ?_
   | refine LeO.bind ?_ (fun _ => ?_)
theorem impl_Settle.mono : ∀ a0 a1 a2 a3 a4 a5 a6 a7 a8 k, LeO (impl_Settle.f k a0 a1 a2 a3 a4 a5 a6 a7 a8) (impl_Settle.f (k + 1) a0 a1 a2 a3 a4 a5 a6 a7 a8) := by
 intro a0 a1 a2 a3 a4 a5 a6 a7 a8 k
 have ih0 := impl_Settle.mono_l k
 unfold impl_Settle.f
 repeat' first
   | (with_reducible exact ih0 _ _ _ _ _ _ _ _ _ _)
   | (with_reducible exact LeO.refl _)
   | (with_reducible exact LeO.none _)
   | (with_reducible refine LeO.ite ?_ ?_)
   | (with_reducible refine LeO.bind ?_ (fun _ => ?_))
   | exact ih0 _ _ _ _ _ _ _ _ _ _
   | exact LeO.none _
   | refine LeO.ite ?_ ?_
   | refine LeO.bind ?_ (fun _ => ?_)
set_option maxHeartbeats 8000000 in
set_option maxRecDepth 100000 in
theorem impl_Settle.calls (k : Nat) (a0_0 : Int) (a0_1 : Int) (a0_2 : Int) (a1_0 : Int) (a1_1 : Int) (a1_2 : Int) (a2_0 : Int) (a2_1 : Int) (a2_2 : Int) (r1 : Int) (r2 : Int) (r3 : Int) (r4 : Bool) (w : World) (h : impl_Settle.f k a0_0 a0_1 a0_2 a1_0 a1_1 a1_2 a2_0 a2_1 a2_2 = some (r1, r2, r3, r4)) :
  Calls Try.prog 66 #[.agg #[.int .i64 a0_0, .int .i64 a0_1, .int .i64 a0_2], .agg #[.int .i64 a1_0, .int .i64 a1_1, .int .i64 a1_2], .agg #[.int .i64 a2_0, .int .i64 a2_1, .int .i64 a2_2]] w fun e w' => e = .returned (.tuple #[.agg #[.int .i64 r1, .int .i64 r2, .int .i64 r3], .bool r4]) ∧ Below w.heap.size w w' := by
 have hu46 := Try.underlying46; have HB := Aside0.mk (Below.refl w.heap.size w)
 have H : ((impl_CarryOk.f a0_0 a0_1 a0_2).bind fun t384 => (if t384 = true then ((impl_CostOk.f a1_0 a1_1 a1_2).bind fun t385 => (if t385 = true then ((impl_CostOk.f a2_0 a2_1 a2_2).bind fun t386 => (impl_Settle.j0 k (!t386) a0_0 a0_1 a0_2 a1_0 a1_1 a1_2 a2_0 a2_1 a2_2)) else (impl_Settle.j0 k true a0_0 a0_1 a0_2 a1_0 a1_1 a1_2 a2_0 a2_1 a2_2))) else (impl_Settle.j0 k true a0_0 a0_1 a0_2 a1_0 a1_1 a1_2 a2_0 a2_1 a2_2))) = some (r1, r2, r3, r4) := h
 clear h
 have HC4 := Aside0.mk H
 clear H
 go_enter Try.func66, Try.ntmps66
 go_upto_region 1 with (first | ((with_reducible refine gd_ 3 rfl ?_); refine bv_ 3 #[.int .i64 a0_0, .int .i64 a0_1, .int .i64 a0_2] 46 ?_; intro gb380 hg w5 hbox hb; have BK380 := Aside0.mk (hbox); have GW380 := gw_ HB hg; have GE380 := gw_ HB hg; replace HB := Aside0.mk (below_step (be_ HB) hb); clear hb hbox hg) | ((with_reducible refine gd_ 4 rfl ?_); refine bv_ 4 #[.int .i64 a1_0, .int .i64 a1_1, .int .i64 a1_2] 46 ?_; intro gb381 hg w6 hbox hb; have BK381 := Aside0.mk (hbox); have GW381 := gw_ HB hg; have GE381 := gw_ HB hg; replace HB := Aside0.mk (below_step (bf_ HB) hb); have NB380_381 := nl_ BK380 hg; have NB381_380 := ng_ BK380 hg; replace BK380 := bb_ BK380 hb; clear hb hbox hg) | ((with_reducible refine gd_ 5 rfl ?_); refine bv_ 5 #[.int .i64 a2_0, .int .i64 a2_1, .int .i64 a2_2] 46 ?_; intro gb382 hg w7 hbox hb; have BK382 := Aside0.mk (hbox); have GW382 := gw_ HB hg; have GE382 := gw_ HB hg; replace HB := Aside0.mk (below_step (bf_ HB) hb); have NB380_382 := nl_ BK380 hg; have NB382_380 := ng_ BK380 hg; replace BK380 := bb_ BK380 hb; have NB381_382 := nl_ BK381 hg; have NB382_381 := ng_ BK381 hg; replace BK381 := bb_ BK381 hb; clear hb hbox hg) | ((with_reducible refine gd_ 6 rfl ?_); refine bv_ 6 #[.int .i64 0, .int .i64 0, .int .i64 0] 46 ?_; intro gb383 hg w8 hbox hb; have BK383 := Aside0.mk (hbox); have GW383 := gw_ HB hg; have GE383 := gw_ HB hg; replace HB := Aside0.mk (below_step (bf_ HB) hb); have NB380_383 := nl_ BK380 hg; have NB383_380 := ng_ BK380 hg; replace BK380 := bb_ BK380 hb; have NB381_383 := nl_ BK381 hg; have NB383_381 := ng_ BK381 hg; replace BK381 := bb_ BK381 hb; have NB382_383 := nl_ BK382 hg; have NB383_382 := ng_ BK382 hg; replace BK382 := bb_ BK382 hb; clear hb hbox hg))
 (try simp only [Act.put, ls0_, ls1_, ls2_])
 go_cut [21] (fun v21 wc => ∃ (kq : Nat) (x21_3 : Bool), v21 = .bool x21_3 ∧ Aside0 (impl_Settle.j0 kq x21_3 a0_0 a0_1 a0_2 a1_0 a1_1 a1_2 a2_0 a2_1 a2_2 = some (r1, r2, r3, r4)) ∧ Aside0 (kq ≤ k) ∧ Aside0 (wc.heap[gb380]? = some (.cells #[.int .i64 a0_0, .int .i64 a0_1, .int .i64 a0_2] 46 (0, 0))) ∧ Aside0 (wc.heap[gb381]? = some (.cells #[.int .i64 a1_0, .int .i64 a1_1, .int .i64 a1_2] 46 (0, 0))) ∧ Aside0 (wc.heap[gb382]? = some (.cells #[.int .i64 a2_0, .int .i64 a2_1, .int .i64 a2_2] 46 (0, 0))) ∧ Aside0 (wc.heap[gb383]? = some (.cells #[.int .i64 0, .int .i64 0, .int .i64 0] 46 (0, 0))) ∧ Aside0 (Below w.heap.size w wc))
 case first =>
  have H := HC4.out
  clear HC4
  replace H := Option.bind_eq_some_iff.mp H
  obtain ⟨t384, A90, H⟩ := H
  replace H : (if t384 = true then ((impl_CostOk.f a1_0 a1_1 a1_2).bind fun t385 => (if t385 = true then ((impl_CostOk.f a2_0 a2_1 a2_2).bind fun t386 => (impl_Settle.j0 k (!t386) a0_0 a0_1 a0_2 a1_0 a1_1 a1_2 a2_0 a2_1 a2_2)) else (impl_Settle.j0 k true a0_0 a0_1 a0_2 a1_0 a1_1 a1_2 a2_0 a2_1 a2_2))) else (impl_Settle.j0 k true a0_0 a0_1 a0_2 a1_0 a1_1 a1_2 a2_0 a2_1 a2_2)) = some (r1, r2, r3, r4) := H
  have A9 := Aside0.mk A90
  clear A90
  by_cases c10 : t384 = true
  ·subst c10
   have H1 : ((impl_CostOk.f a1_0 a1_1 a1_2).bind fun t385 => (if t385 = true then ((impl_CostOk.f a2_0 a2_1 a2_2).bind fun t386 => (impl_Settle.j0 k (!t386) a0_0 a0_1 a0_2 a1_0 a1_1 a1_2 a2_0 a2_1 a2_2)) else (impl_Settle.j0 k true a0_0 a0_1 a0_2 a1_0 a1_1 a1_2 a2_0 a2_1 a2_2))) = some (r1, r2, r3, r4) := by rw [if_pos rfl] at H; exact H
   clear H
   have H := H1
   clear H1
   replace H := Option.bind_eq_some_iff.mp H
   obtain ⟨t385, A110, H⟩ := H
   replace H : (if t385 = true then ((impl_CostOk.f a2_0 a2_1 a2_2).bind fun t386 => (impl_Settle.j0 k (!t386) a0_0 a0_1 a0_2 a1_0 a1_1 a1_2 a2_0 a2_1 a2_2)) else (impl_Settle.j0 k true a0_0 a0_1 a0_2 a1_0 a1_1 a1_2 a2_0 a2_1 a2_2)) = some (r1, r2, r3, r4) := H
   have A11 := Aside0.mk A110
   clear A110
   by_cases c12 : t385 = true
   ·subst c12
    have H1 : ((impl_CostOk.f a2_0 a2_1 a2_2).bind fun t386 => (impl_Settle.j0 k (!t386) a0_0 a0_1 a0_2 a1_0 a1_1 a1_2 a2_0 a2_1 a2_2)) = some (r1, r2, r3, r4) := by rw [if_pos rfl] at H; exact H
    clear H
    have H := H1
    clear H1
    replace H := Option.bind_eq_some_iff.mp H
    obtain ⟨t386, A130, H⟩ := H
    replace H : (impl_Settle.j0 k (!t386) a0_0 a0_1 a0_2 a1_0 a1_1 a1_2 a2_0 a2_1 a2_2) = some (r1, r2, r3, r4) := H
    have A13 := Aside0.mk A130
    clear A130
    have H' := Aside0.mk H
    clear H; have hnb14 := NB380_381.out; have hnc14 := NB381_380.out; have hnb15 := NB380_382.out; have hnc15 := NB382_380.out; have hnb16 := NB380_383.out; have hnc16 := NB383_380.out; obtain ⟨hcz17_0, hcz17_1, hcz17_2, hfz17_0, hfz17_1, hfz17_2⟩ := bz3_ BK380
    go_wp2_with (first | ((with_reducible refine gc_ 130 rfl ?_); refine gl_ 10 Try.func130 #[.agg #[.int .i64 a0_0, .int .i64 a0_1, .int .i64 a0_2]] ?_; (with_reducible refine (impl_CarryOk.calls a0_0 a0_1 a0_2 true _ A9.out).mono ?_); rintro e w18 ⟨rfl, hb⟩; refine ⟨_, rfl, ?_⟩; replace BK380 := bb_ BK380 hb; replace BK381 := bb_ BK381 hb; replace BK382 := bb_ BK382 hb; replace BK383 := bb_ BK383 hb; replace HB := Aside0.mk (below_step (bf_ HB) hb); (try clear hb); (try clear hb2); (try clear hk); (try clear hi); have hnb19 := NB381_382.out; have hnc19 := NB382_381.out; have hnb20 := NB381_383.out; have hnc20 := NB383_381.out; obtain ⟨hcz21_0, hcz21_1, hcz21_2, hfz21_0, hfz21_1, hfz21_2⟩ := bz3_ BK381) | (go_at_call 64; (with_reducible refine (impl_CostOk.calls a1_0 a1_1 a1_2 true _ A11.out).mono ?_); rintro e w22 ⟨rfl, hb⟩; replace BK380 := bb_ BK380 hb; replace BK381 := bb_ BK381 hb; replace BK382 := bb_ BK382 hb; replace BK383 := bb_ BK383 hb; replace HB := Aside0.mk (below_step (bf_ HB) hb); (try clear hb); (try clear hb2); (try clear hk); (try clear hi); have hnb23 := NB382_383.out; have hnc23 := NB383_382.out; obtain ⟨hcz24_0, hcz24_1, hcz24_2, hfz24_0, hfz24_1, hfz24_2⟩ := bz3_ BK382) | (go_at_call 64; (with_reducible refine (impl_CostOk.calls a2_0 a2_1 a2_2 t386 _ A13.out).mono ?_); rintro e w25 ⟨rfl, hb⟩; replace BK380 := bb_ BK380 hb; replace BK381 := bb_ BK381 hb; replace BK382 := bb_ BK382 hb; replace BK383 := bb_ BK383 hb; replace HB := Aside0.mk (below_step (bf_ HB) hb); (try clear hb); (try clear hb2); (try clear hk); (try clear hi)))
    go_meet
    case rel => exact ⟨_, (!t386), (by first | rfl | (simp; done) | (simp [*]; done)), H', ⟨by first | omega | exact Nat.le_refl _⟩, ⟨bk_ BK380⟩, ⟨bk_ BK381⟩, ⟨bk_ BK382⟩, ⟨bk_ BK383⟩, ⟨bf_ HB⟩⟩
   ·replace c12 := Bool.eq_false_iff.mpr c12
    subst c12
    have H1 : (impl_Settle.j0 k true a0_0 a0_1 a0_2 a1_0 a1_1 a1_2 a2_0 a2_1 a2_2) = some (r1, r2, r3, r4) := by rw [if_neg (show ¬ (false = true) by decide)] at H; exact H
    clear H
    have H := H1
    clear H1
    have H' := Aside0.mk H
    clear H; have hnb26 := NB380_381.out; have hnc26 := NB381_380.out; have hnb27 := NB380_382.out; have hnc27 := NB382_380.out; have hnb28 := NB380_383.out; have hnc28 := NB383_380.out; obtain ⟨hcz29_0, hcz29_1, hcz29_2, hfz29_0, hfz29_1, hfz29_2⟩ := bz3_ BK380
    go_wp2_with (first | ((with_reducible refine gc_ 130 rfl ?_); refine gl_ 10 Try.func130 #[.agg #[.int .i64 a0_0, .int .i64 a0_1, .int .i64 a0_2]] ?_; (with_reducible refine (impl_CarryOk.calls a0_0 a0_1 a0_2 true _ A9.out).mono ?_); rintro e w30 ⟨rfl, hb⟩; refine ⟨_, rfl, ?_⟩; replace BK380 := bb_ BK380 hb; replace BK381 := bb_ BK381 hb; replace BK382 := bb_ BK382 hb; replace BK383 := bb_ BK383 hb; replace HB := Aside0.mk (below_step (bf_ HB) hb); (try clear hb); (try clear hb2); (try clear hk); (try clear hi); have hnb31 := NB381_382.out; have hnc31 := NB382_381.out; have hnb32 := NB381_383.out; have hnc32 := NB383_381.out; obtain ⟨hcz33_0, hcz33_1, hcz33_2, hfz33_0, hfz33_1, hfz33_2⟩ := bz3_ BK381) | (go_at_call 64; (with_reducible refine (impl_CostOk.calls a1_0 a1_1 a1_2 false _ A11.out).mono ?_); rintro e w34 ⟨rfl, hb⟩; replace BK380 := bb_ BK380 hb; replace BK381 := bb_ BK381 hb; replace BK382 := bb_ BK382 hb; replace BK383 := bb_ BK383 hb; replace HB := Aside0.mk (below_step (bf_ HB) hb); (try clear hb); (try clear hb2); (try clear hk); (try clear hi)))
    go_meet
    case rel => exact ⟨_, (true), (by first | rfl | (simp; done) | (simp [*]; done)), H', ⟨by first | omega | exact Nat.le_refl _⟩, ⟨bk_ BK380⟩, ⟨bk_ BK381⟩, ⟨bk_ BK382⟩, ⟨bk_ BK383⟩, ⟨bf_ HB⟩⟩
  ·replace c10 := Bool.eq_false_iff.mpr c10
   subst c10
   have H1 : (impl_Settle.j0 k true a0_0 a0_1 a0_2 a1_0 a1_1 a1_2 a2_0 a2_1 a2_2) = some (r1, r2, r3, r4) := by rw [if_neg (show ¬ (false = true) by decide)] at H; exact H
   clear H
   have H := H1
   clear H1
   have H' := Aside0.mk H
   clear H; have hnb35 := NB380_381.out; have hnc35 := NB381_380.out; have hnb36 := NB380_382.out; have hnc36 := NB382_380.out; have hnb37 := NB380_383.out; have hnc37 := NB383_380.out; obtain ⟨hcz38_0, hcz38_1, hcz38_2, hfz38_0, hfz38_1, hfz38_2⟩ := bz3_ BK380
   go_wp2_with (first | ((with_reducible refine gc_ 130 rfl ?_); refine gl_ 10 Try.func130 #[.agg #[.int .i64 a0_0, .int .i64 a0_1, .int .i64 a0_2]] ?_; (with_reducible refine (impl_CarryOk.calls a0_0 a0_1 a0_2 false _ A9.out).mono ?_); rintro e w39 ⟨rfl, hb⟩; refine ⟨_, rfl, ?_⟩; replace BK380 := bb_ BK380 hb; replace BK381 := bb_ BK381 hb; replace BK382 := bb_ BK382 hb; replace BK383 := bb_ BK383 hb; replace HB := Aside0.mk (below_step (bf_ HB) hb); (try clear hb); (try clear hb2); (try clear hk); (try clear hi)))
   go_meet
   case rel => exact ⟨_, (true), (by first | rfl | (simp; done) | (simp [*]; done)), H', ⟨by first | omega | exact Nat.le_refl _⟩, ⟨bk_ BK380⟩, ⟨bk_ BK381⟩, ⟨bk_ BK382⟩, ⟨bk_ BK383⟩, ⟨bf_ HB⟩⟩
 case rest =>
  clear HC4; (try clear c1); (try clear c2); (try clear p2); (try clear c3); (try clear c6); (try clear c10); (try clear c12); (try clear c13); (try clear c14); (try clear c15); (try clear c16); (try clear c19); (try clear c20); (try clear c23); (try clear c26); (try clear c27); (try clear c28); (try clear c31); (try clear c32); (try clear c35); (try clear c36); (try clear c37); (try clear hcz17_0 hcz17_1 hcz17_2 hfz17_0 hfz17_1 hfz17_2); (try clear hcz21_0 hcz21_1 hcz21_2 hfz21_0 hfz21_1 hfz21_2); (try clear hcz24_0 hcz24_1 hcz24_2 hfz24_0 hfz24_1 hfz24_2); (try clear hcz29_0 hcz29_1 hcz29_2 hfz29_0 hfz29_1 hfz29_2); (try clear hcz33_0 hcz33_1 hcz33_2 hfz33_0 hfz33_1 hfz33_2); (try clear hcz38_0 hcz38_1 hcz38_2 hfz38_0 hfz38_1 hfz38_2)
  obtain ⟨kq, x21_3, rfl, HA, HJ3, BK380, BK381, BK382, BK383, HB⟩ := hcut
  cases kq with
  | zero => exact absurd HA.out (by simp [impl_Settle.j0])
  | succ kj3 =>
   have H := HA.out
   clear HA
   simp only [impl_Settle.j0] at H
   by_cases c40 : x21_3 = true
   ·subst c40
    have H1 : (some (0, 0, 0, false)) = some (r1, r2, r3, r4) := by rw [if_pos rfl] at H; exact H
    clear H
    have H := H1
    clear H1
    simp only [Option.some.injEq, Prod.mk.injEq] at H
    obtain ⟨rfl, rfl, rfl, rfl⟩ := H
    have hnb41 := NB383_380.out; have hnc41 := NB380_383.out; have hnb42 := NB383_381.out; have hnc42 := NB381_383.out; have hnb43 := NB383_382.out; have hnc43 := NB382_383.out; obtain ⟨hcz44_0, hcz44_1, hcz44_2, hfz44_0, hfz44_1, hfz44_2⟩ := bz3_ BK383
    go_wp2
    refine bodyPost_ret (results_ct rfl _ _ gb383 46 #[.int .i64 0, .int .i64 0, .int .i64 0] (0, 0) _ rfl (by (with_reducible repeat (first | refine blk_drewN ?_ _ | refine blk_drew ?_ | refine blk_alloc ?_ _)); refine blk_put (cs := #[.int .i64 0, .int .i64 0, .int .i64 0]) ?_ 2 _ rfl; (with_reducible repeat (first | refine blk_drewN ?_ _ | refine blk_drew ?_ | refine blk_alloc ?_ _)); refine blk_put (cs := #[.int .i64 0, .int .i64 0, .int .i64 0]) ?_ 1 _ rfl; (with_reducible repeat (first | refine blk_drewN ?_ _ | refine blk_drew ?_ | refine blk_alloc ?_ _)); refine blk_put (cs := #[.int .i64 0, .int .i64 0, .int .i64 0]) ?_ 0 _ rfl; exact bk_ BK383) Try.underlying46 rfl (by kernel_rfl)) rfl ?_
    exact ⟨by first | rfl | (simp [errW_none, errW_some] <;> rfl) | (simp [*, errW_none, errW_some] <;> rfl), bf_ HB⟩
   ·replace c40 := Bool.eq_false_iff.mpr c40
    subst c40
    have H1 : ((impl_Vec_plus.f a0_0 a0_1 a0_2 a2_0 a2_1 a2_2).bind fun bt387 => ((impl_Vec_minus.f bt387.1 bt387.2.1 bt387.2.2 a1_0 a1_1 a1_2).bind fun bt390 => ((impl_CarryOk.f bt390.1 bt390.2.1 bt390.2.2).bind fun t394 => (if t394 = true then (some (bt390.1, bt390.2.1, bt390.2.2, true)) else (some (0, 0, 0, false)))))) = some (r1, r2, r3, r4) := by rw [if_neg (show ¬ (false = true) by decide)] at H; exact H
    clear H
    have H := H1
    clear H1
    replace H := Option.bind_eq_some_iff.mp H
    obtain ⟨⟨t387, t388, t389⟩, A450, H⟩ := H
    replace H : ((impl_Vec_minus.f t387 t388 t389 a1_0 a1_1 a1_2).bind fun bt390 => ((impl_CarryOk.f bt390.1 bt390.2.1 bt390.2.2).bind fun t394 => (if t394 = true then (some (bt390.1, bt390.2.1, bt390.2.2, true)) else (some (0, 0, 0, false))))) = some (r1, r2, r3, r4) := H
    have A45 := Aside0.mk A450
    clear A450
    replace H := Option.bind_eq_some_iff.mp H
    obtain ⟨⟨t390, t391, t392⟩, A460, H⟩ := H
    replace H : ((impl_CarryOk.f t390 t391 t392).bind fun t394 => (if t394 = true then (some (t390, t391, t392, true)) else (some (0, 0, 0, false)))) = some (r1, r2, r3, r4) := H
    have A46 := Aside0.mk A460
    clear A460
    replace H := Option.bind_eq_some_iff.mp H
    obtain ⟨t394, A470, H⟩ := H
    replace H : (if t394 = true then (some (t390, t391, t392, true)) else (some (0, 0, 0, false))) = some (r1, r2, r3, r4) := H
    have A47 := Aside0.mk A470
    clear A470
    by_cases c48 : t394 = true
    ·subst c48
     have H1 : (some (t390, t391, t392, true)) = some (r1, r2, r3, r4) := by rw [if_pos rfl] at H; exact H
     clear H
     have H := H1
     clear H1
     simp only [Option.some.injEq, Prod.mk.injEq] at H
     obtain ⟨rfl, rfl, rfl, rfl⟩ := H
     try go_wp2
     replace BK380 := Aside0.mk (blk_drew BK380.out); replace BK381 := Aside0.mk (blk_drew BK381.out); replace BK382 := Aside0.mk (blk_drew BK382.out); replace BK383 := Aside0.mk (blk_drew BK383.out); replace HB := Aside0.mk (below_drew1 HB.out)
     refine start_ (n := 7) (S := fun w' => cw_ w' gb380 0 (.int .i64 a0_0) ∧ cw_ w' gb380 1 (.int .i64 a0_1) ∧ cw_ w' gb380 2 (.int .i64 a0_2) ∧ cw_ w' gb382 0 (.int .i64 a2_0) ∧ cw_ w' gb382 1 (.int .i64 a2_1) ∧ cw_ w' gb382 2 (.int .i64 a2_2) ∧ cw_ w' gb381 0 (.int .i64 a1_0) ∧ cw_ w' gb381 1 (.int .i64 a1_1) ∧ cw_ w' gb381 2 (.int .i64 a1_2)) (ds := []) (bs 7 0) (by kernel_rfl) rfl rfl ⟨bt_ BK380 0, bt_ BK380 1, bt_ BK380 2, bt_ BK382 0, bt_ BK382 1, bt_ BK382 2, bt_ BK381 0, bt_ BK381 1, bt_ BK381 2⟩ (fun hHeld => ?_)
     generalize wc.drew = w49 at BK380 BK381 BK382 BK383 HB hHeld ⊢
     refine tk0_ 0 23 (bs 7 1) hHeld ?_
     refine tk0_ 1 24 (bs 7 2) hHeld ?_
     refine tk0_ 3 26 #[oT,oT,oF,oT,oF,oF,oF] hHeld ?_
     refine join_ (σ := Nat) 1 (bs 7 6) (fun s_ => [(25, .agg #[.int .i64 t387, .int .i64 t388, .int .i64 t389]), (27, .agg #[.int .i64 t390, .int .i64 t391, .int .i64 t392]), (8, .pointer (some ⟨s_, 0, none⟩))]) (fun s_ w' => (w'.cell? ⟨gb380, 0, none⟩ = some (.int .i64 a0_0) ∧ w'.cell? ⟨gb380, 1, none⟩ = some (.int .i64 a0_1) ∧ w'.cell? ⟨gb380, 2, none⟩ = some (.int .i64 a0_2) ∧ w'.cell? ⟨gb382, 0, none⟩ = some (.int .i64 a2_0) ∧ w'.cell? ⟨gb382, 1, none⟩ = some (.int .i64 a2_1) ∧ w'.cell? ⟨gb382, 2, none⟩ = some (.int .i64 a2_2) ∧ w'.cell? ⟨gb381, 0, none⟩ = some (.int .i64 a1_0) ∧ w'.cell? ⟨gb381, 1, none⟩ = some (.int .i64 a1_1) ∧ w'.cell? ⟨gb381, 2, none⟩ = some (.int .i64 a1_2)) ∧ (w'.heap[gb380]? = some (.cells #[.int .i64 a0_0, .int .i64 a0_1, .int .i64 a0_2] 46 (0, 0))) ∧ (w'.heap[gb381]? = some (.cells #[.int .i64 a1_0, .int .i64 a1_1, .int .i64 a1_2] 46 (0, 0))) ∧ (w'.heap[gb382]? = some (.cells #[.int .i64 a2_0, .int .i64 a2_1, .int .i64 a2_2] 46 (0, 0))) ∧ (w'.heap[gb383]? = some (.cells #[.int .i64 0, .int .i64 0, .int .i64 0] 46 (0, 0))) ∧ (w'.heap[s_]? = some (.cells #[.int .i64 0, .int .i64 0, .int .i64 0] 46 (0, 0))) ∧ (w.heap.size ≤ s_) ∧ (w.heap.size ≤ s_) ∧ (gb380 ≠ s_) ∧ (s_ ≠ gb380) ∧ (gb381 ≠ s_) ∧ (s_ ≠ gb381) ∧ (gb382 ≠ s_) ∧ (s_ ≠ gb382) ∧ (gb383 ≠ s_) ∧ (s_ ≠ gb383) ∧ (Below w.heap.size w w')) ?_ ?_
     rotate_left
     ·intro hCont
      refine two_ (i := 2) (j := 5) (Ni := some 25) (Nj := some 8) (bs 7 4) #[oT,oT,oF,oT,oF,oT,oF] rfl rfl rfl rfl (by kernel_rfl) (by decide) (by decide) (fun K hK => ?_) (fun K hK => ?_)
      ·skip
       refine gs_ Try.func131 #[.agg #[.int .i64 a0_0, .int .i64 a0_1, .int .i64 a0_2], .agg #[.int .i64 a2_0, .int .i64 a2_1, .int .i64 a2_2]] ?_
       with_reducible refine (impl_Vec_plus.calls a0_0 a0_1 a0_2 a2_0 a2_1 a2_2 t387 t388 t389 _ A45.out).mono ?_
       rintro e w50 ⟨rfl, hb⟩
       refine ⟨_, rfl, ?_⟩
       replace BK380 := bb_ BK380 hb; replace BK381 := bb_ BK381 hb; replace BK382 := bb_ BK382 hb; replace BK383 := bb_ BK383 hb; replace HB := Aside0.mk (below_step (bf_ HB) hb); (try clear hb); (try clear hb2); (try clear hk); (try clear hi)
       refine hK.out _ _ ⟨bt_ BK380 0, bt_ BK380 1, bt_ BK380 2, bt_ BK382 0, bt_ BK382 1, bt_ BK382 2, bt_ BK381 0, bt_ BK381 1, bt_ BK381 2⟩ (fun hHeld => ?_)
       clear hK K
       refine norm_ (a' := ?_) ?_ ?_
       rotate_left
       ·show Act.put _ (some 25) _ = _
        simp only [Act.put, ls0_, ls1_, ls2_, i64_w, i32_w]
        rfl
       refine two_ (i := 4) (j := 5) (Ni := some 27) (Nj := some 8) (bs 7 5) #[oT,oT,oT,oT,oF,oT,oF] rfl rfl rfl rfl (by kernel_rfl) (by decide) (by decide) (fun K hK => ?_) (fun K hK => ?_)
       ·skip
        refine gs_ Try.func135 #[.agg #[.int .i64 t387, .int .i64 t388, .int .i64 t389], .agg #[.int .i64 a1_0, .int .i64 a1_1, .int .i64 a1_2]] ?_
        with_reducible refine (impl_Vec_minus.calls t387 t388 t389 a1_0 a1_1 a1_2 t390 t391 t392 _ A46.out).mono ?_
        rintro e w51 ⟨rfl, hb⟩
        refine ⟨_, rfl, ?_⟩
        replace BK380 := bb_ BK380 hb; replace BK381 := bb_ BK381 hb; replace BK382 := bb_ BK382 hb; replace BK383 := bb_ BK383 hb; replace HB := Aside0.mk (below_step (bf_ HB) hb); (try clear hb); (try clear hb2); (try clear hk); (try clear hi)
        refine hK.out _ _ ⟨bt_ BK380 0, bt_ BK380 1, bt_ BK380 2, bt_ BK382 0, bt_ BK382 1, bt_ BK382 2, bt_ BK381 0, bt_ BK381 1, bt_ BK381 2⟩ (fun hHeld => ?_)
        clear hK K
        refine norm_ (a' := ?_) ?_ ?_
        rotate_left
        ·show Act.put _ (some 27) _ = _
         simp only [Act.put, ls0_, ls1_, ls2_, i64_w, i32_w]
         rfl
        refine on0_ 5 (some 8) (bs 7 6) (fun K hK => ?_)
        refine box_step ?hg (N := 8) ?hd (cs := #[.int .i64 0, .int .i64 0, .int .i64 0]) (t := 46) ?hr ?_; (case hd => rfl); (case hg => rfl); (case hr => first | (go_simp; done) | (go_simp; rfl))
        intro gb393 hg w52 hbox hb
        have BK393 := Aside0.mk (hbox); have GW393 := gw_ HB hg; have GE393 := gw_ HB hg; replace HB := Aside0.mk (below_step (bf_ HB) hb); have NB380_393 := nl_ BK380 hg; have NB393_380 := ng_ BK380 hg; replace BK380 := bb_ BK380 hb; have NB381_393 := nl_ BK381 hg; have NB393_381 := ng_ BK381 hg; replace BK381 := bb_ BK381 hb; have NB382_393 := nl_ BK382 hg; have NB393_382 := ng_ BK382 hg; replace BK382 := bb_ BK382 hb; have NB383_393 := nl_ BK383 hg; have NB393_383 := ng_ BK383 hg; replace BK383 := bb_ BK383 hb; clear hb hbox hg
        refine hK.out _ _ ⟨bt_ BK380 0, bt_ BK380 1, bt_ BK380 2, bt_ BK382 0, bt_ BK382 1, bt_ BK382 2, bt_ BK381 0, bt_ BK381 1, bt_ BK381 2⟩ (fun hHeld => ?_)
        clear hK K
        refine norm_ (a' := ?_) ?_ ?_
        rotate_left
        ·show Act.put _ (some 8) _ = _
         simp only [Act.put, ls0_, ls1_, ls2_, i64_w, i32_w]
         rfl
        exact norm_ (by simp only [putAll, Act.put, ls0_, ls1_, ls2_]) (hCont (gb393) _ ⟨hHeld, (bk_ BK380), (bk_ BK381), (bk_ BK382), (bk_ BK383), (bk_ BK393), GW393.out, GE393.out, NB380_393.out, NB393_380.out, NB381_393.out, NB393_381.out, NB382_393.out, NB393_382.out, NB383_393.out, NB393_383.out, (bf_ HB)⟩)
       ·skip
        refine box_step ?hg (N := 8) ?hd (cs := #[.int .i64 0, .int .i64 0, .int .i64 0]) (t := 46) ?hr ?_; (case hd => rfl); (case hg => rfl); (case hr => first | (go_simp; done) | (go_simp; rfl))
        intro gb393 hg w51 hbox hb
        have BK393 := Aside0.mk (hbox); have GW393 := gw_ HB hg; have GE393 := gw_ HB hg; replace HB := Aside0.mk (below_step (bf_ HB) hb); have NB380_393 := nl_ BK380 hg; have NB393_380 := ng_ BK380 hg; replace BK380 := bb_ BK380 hb; have NB381_393 := nl_ BK381 hg; have NB393_381 := ng_ BK381 hg; replace BK381 := bb_ BK381 hb; have NB382_393 := nl_ BK382 hg; have NB393_382 := ng_ BK382 hg; replace BK382 := bb_ BK382 hb; have NB383_393 := nl_ BK383 hg; have NB393_383 := ng_ BK383 hg; replace BK383 := bb_ BK383 hb; clear hb hbox hg
        refine hK.out _ _ ⟨bt_ BK380 0, bt_ BK380 1, bt_ BK380 2, bt_ BK382 0, bt_ BK382 1, bt_ BK382 2, bt_ BK381 0, bt_ BK381 1, bt_ BK381 2⟩ (fun hHeld => ?_)
        clear hK K
        refine norm_ (a' := ?_) ?_ ?_
        rotate_left
        ·show Act.put _ (some 8) _ = _
         simp only [Act.put, ls0_, ls1_, ls2_, i64_w, i32_w]
         rfl
        refine on0_ 4 (some 27) (bs 7 6) (fun K hK => ?_)
        refine gs_ Try.func135 #[.agg #[.int .i64 t387, .int .i64 t388, .int .i64 t389], .agg #[.int .i64 a1_0, .int .i64 a1_1, .int .i64 a1_2]] ?_
        with_reducible refine (impl_Vec_minus.calls t387 t388 t389 a1_0 a1_1 a1_2 t390 t391 t392 _ A46.out).mono ?_
        rintro e w52 ⟨rfl, hb⟩
        refine ⟨_, rfl, ?_⟩
        replace BK380 := bb_ BK380 hb; replace BK381 := bb_ BK381 hb; replace BK382 := bb_ BK382 hb; replace BK383 := bb_ BK383 hb; replace BK393 := bb_ BK393 hb; replace HB := Aside0.mk (below_step (bf_ HB) hb); (try clear hb); (try clear hb2); (try clear hk); (try clear hi)
        refine hK.out _ _ ⟨bt_ BK380 0, bt_ BK380 1, bt_ BK380 2, bt_ BK382 0, bt_ BK382 1, bt_ BK382 2, bt_ BK381 0, bt_ BK381 1, bt_ BK381 2⟩ (fun hHeld => ?_)
        clear hK K
        refine norm_ (a' := ?_) ?_ ?_
        rotate_left
        ·show Act.put _ (some 27) _ = _
         simp only [Act.put, ls0_, ls1_, ls2_, i64_w, i32_w]
         rfl
        exact norm_ (by simp only [putAll, Act.put, ls0_, ls1_, ls2_]) (hCont (gb393) _ ⟨hHeld, (bk_ BK380), (bk_ BK381), (bk_ BK382), (bk_ BK383), (bk_ BK393), GW393.out, GE393.out, NB380_393.out, NB393_380.out, NB381_393.out, NB393_381.out, NB382_393.out, NB393_382.out, NB383_393.out, NB393_383.out, (bf_ HB)⟩)
      ·skip
       refine box_step ?hg (N := 8) ?hd (cs := #[.int .i64 0, .int .i64 0, .int .i64 0]) (t := 46) ?hr ?_; (case hd => rfl); (case hg => rfl); (case hr => first | (go_simp; done) | (go_simp; rfl))
       intro gb393 hg w50 hbox hb
       have BK393 := Aside0.mk (hbox); have GW393 := gw_ HB hg; have GE393 := gw_ HB hg; replace HB := Aside0.mk (below_step (bf_ HB) hb); have NB380_393 := nl_ BK380 hg; have NB393_380 := ng_ BK380 hg; replace BK380 := bb_ BK380 hb; have NB381_393 := nl_ BK381 hg; have NB393_381 := ng_ BK381 hg; replace BK381 := bb_ BK381 hb; have NB382_393 := nl_ BK382 hg; have NB393_382 := ng_ BK382 hg; replace BK382 := bb_ BK382 hb; have NB383_393 := nl_ BK383 hg; have NB393_383 := ng_ BK383 hg; replace BK383 := bb_ BK383 hb; clear hb hbox hg
       refine hK.out _ _ ⟨bt_ BK380 0, bt_ BK380 1, bt_ BK380 2, bt_ BK382 0, bt_ BK382 1, bt_ BK382 2, bt_ BK381 0, bt_ BK381 1, bt_ BK381 2⟩ (fun hHeld => ?_)
       clear hK K
       refine norm_ (a' := ?_) ?_ ?_
       rotate_left
       ·show Act.put _ (some 8) _ = _
        simp only [Act.put, ls0_, ls1_, ls2_, i64_w, i32_w]
        rfl
       refine on0_ 2 (some 25) #[oT,oT,oT,oT,oF,oT,oF] (fun K hK => ?_)
       refine gs_ Try.func131 #[.agg #[.int .i64 a0_0, .int .i64 a0_1, .int .i64 a0_2], .agg #[.int .i64 a2_0, .int .i64 a2_1, .int .i64 a2_2]] ?_
       with_reducible refine (impl_Vec_plus.calls a0_0 a0_1 a0_2 a2_0 a2_1 a2_2 t387 t388 t389 _ A45.out).mono ?_
       rintro e w51 ⟨rfl, hb⟩
       refine ⟨_, rfl, ?_⟩
       replace BK380 := bb_ BK380 hb; replace BK381 := bb_ BK381 hb; replace BK382 := bb_ BK382 hb; replace BK383 := bb_ BK383 hb; replace BK393 := bb_ BK393 hb; replace HB := Aside0.mk (below_step (bf_ HB) hb); (try clear hb); (try clear hb2); (try clear hk); (try clear hi)
       refine hK.out _ _ ⟨bt_ BK380 0, bt_ BK380 1, bt_ BK380 2, bt_ BK382 0, bt_ BK382 1, bt_ BK382 2, bt_ BK381 0, bt_ BK381 1, bt_ BK381 2⟩ (fun hHeld => ?_)
       clear hK K
       refine norm_ (a' := ?_) ?_ ?_
       rotate_left
       ·show Act.put _ (some 25) _ = _
        simp only [Act.put, ls0_, ls1_, ls2_, i64_w, i32_w]
        rfl
       refine on0_ 4 (some 27) (bs 7 6) (fun K hK => ?_)
       refine gs_ Try.func135 #[.agg #[.int .i64 t387, .int .i64 t388, .int .i64 t389], .agg #[.int .i64 a1_0, .int .i64 a1_1, .int .i64 a1_2]] ?_
       with_reducible refine (impl_Vec_minus.calls t387 t388 t389 a1_0 a1_1 a1_2 t390 t391 t392 _ A46.out).mono ?_
       rintro e w52 ⟨rfl, hb⟩
       refine ⟨_, rfl, ?_⟩
       replace BK380 := bb_ BK380 hb; replace BK381 := bb_ BK381 hb; replace BK382 := bb_ BK382 hb; replace BK383 := bb_ BK383 hb; replace BK393 := bb_ BK393 hb; replace HB := Aside0.mk (below_step (bf_ HB) hb); (try clear hb); (try clear hb2); (try clear hk); (try clear hi)
       refine hK.out _ _ ⟨bt_ BK380 0, bt_ BK380 1, bt_ BK380 2, bt_ BK382 0, bt_ BK382 1, bt_ BK382 2, bt_ BK381 0, bt_ BK381 1, bt_ BK381 2⟩ (fun hHeld => ?_)
       clear hK K
       refine norm_ (a' := ?_) ?_ ?_
       rotate_left
       ·show Act.put _ (some 27) _ = _
        simp only [Act.put, ls0_, ls1_, ls2_, i64_w, i32_w]
        rfl
       exact norm_ (by simp only [putAll, Act.put, ls0_, ls1_, ls2_]) (hCont (gb393) _ ⟨hHeld, (bk_ BK380), (bk_ BK381), (bk_ BK382), (bk_ BK383), (bk_ BK393), GW393.out, GE393.out, NB380_393.out, NB393_380.out, NB381_393.out, NB393_381.out, NB382_393.out, NB393_382.out, NB383_393.out, NB393_383.out, (bf_ HB)⟩)
     rintro gb393 w53 ⟨hS_, h0_, h1_, h2_, h3_, h4_, h5_, h6_, h7_, h8_, h9_, h10_, h11_, h12_, h13_, h14_, h15_⟩
     have n0_ : Aside0 (w53.heap[gb380]? = some (.cells #[.int .i64 a0_0, .int .i64 a0_1, .int .i64 a0_2] 46 (0, 0))) := ⟨h0_⟩
     have n1_ : Aside0 (w53.heap[gb381]? = some (.cells #[.int .i64 a1_0, .int .i64 a1_1, .int .i64 a1_2] 46 (0, 0))) := ⟨h1_⟩
     have n2_ : Aside0 (w53.heap[gb382]? = some (.cells #[.int .i64 a2_0, .int .i64 a2_1, .int .i64 a2_2] 46 (0, 0))) := ⟨h2_⟩
     have n3_ : Aside0 (w53.heap[gb383]? = some (.cells #[.int .i64 0, .int .i64 0, .int .i64 0] 46 (0, 0))) := ⟨h3_⟩
     have n4_ : Aside0 (w53.heap[gb393]? = some (.cells #[.int .i64 0, .int .i64 0, .int .i64 0] 46 (0, 0))) := ⟨h4_⟩
     have n5_ : Aside0 (w.heap.size ≤ gb393) := ⟨h5_⟩
     have n6_ : Aside0 (w.heap.size ≤ gb393) := ⟨h6_⟩
     have n7_ : Aside0 (gb380 ≠ gb393) := ⟨h7_⟩
     have n8_ : Aside0 (gb393 ≠ gb380) := ⟨h8_⟩
     have n9_ : Aside0 (gb381 ≠ gb393) := ⟨h9_⟩
     have n10_ : Aside0 (gb393 ≠ gb381) := ⟨h10_⟩
     have n11_ : Aside0 (gb382 ≠ gb393) := ⟨h11_⟩
     have n12_ : Aside0 (gb393 ≠ gb382) := ⟨h12_⟩
     have n13_ : Aside0 (gb383 ≠ gb393) := ⟨h13_⟩
     have n14_ : Aside0 (gb393 ≠ gb383) := ⟨h14_⟩
     have n15_ : Aside0 (Below w.heap.size w w53) := ⟨h15_⟩
     clear BK380 BK381 BK382 BK383 HB h0_ h1_ h2_ h3_ h4_ h5_ h6_ h7_ h8_ h9_ h10_ h11_ h12_ h13_ h14_ h15_; have BK380 := n0_; have BK381 := n1_; have BK382 := n2_; have BK383 := n3_; have BK393 := n4_; have GW393 := n5_; have GE393 := n6_; have NB380_393 := n7_; have NB393_380 := n8_; have NB381_393 := n9_; have NB393_381 := n10_; have NB382_393 := n11_; have NB393_382 := n12_; have NB383_393 := n13_; have NB393_383 := n14_; have HB := n15_; clear n0_ n1_ n2_ n3_ n4_ n5_ n6_ n7_ n8_ n9_ n10_ n11_ n12_ n13_ n14_ n15_
     have hHeld : w53.cell? ⟨gb380, 0, none⟩ = some (.int .i64 a0_0) ∧ w53.cell? ⟨gb380, 1, none⟩ = some (.int .i64 a0_1) ∧ w53.cell? ⟨gb380, 2, none⟩ = some (.int .i64 a0_2) ∧ w53.cell? ⟨gb382, 0, none⟩ = some (.int .i64 a2_0) ∧ w53.cell? ⟨gb382, 1, none⟩ = some (.int .i64 a2_1) ∧ w53.cell? ⟨gb382, 2, none⟩ = some (.int .i64 a2_2) ∧ w53.cell? ⟨gb381, 0, none⟩ = some (.int .i64 a1_0) ∧ w53.cell? ⟨gb381, 1, none⟩ = some (.int .i64 a1_1) ∧ w53.cell? ⟨gb381, 2, none⟩ = some (.int .i64 a1_2) := hS_
     refine norm_ (a' := ?_) ?_ ?_
     rotate_left
     ·simp only [putAll, Act.put, ls0_, ls1_, ls2_]
      rfl
     refine on0_ 6 none (bs 7 7) (fun K hK => ?_)
     have hs54 := bc_ BK393 0 (.int .i64 0) rfl; have hfs54 := blk_frozen BK393.out 0; have hns54_0 := NB380_393.out; have hns54_1 := NB381_393.out; have hns54_2 := NB382_393.out; have hns54_3 := NB383_393.out; have hms54_0 := NB393_380.out; have hms54_1 := NB393_381.out; have hms54_2 := NB393_382.out; have hms54_3 := NB393_383.out; have hs55 := bc_ BK393 1 (.int .i64 0) rfl; have hfs55 := blk_frozen BK393.out 1; have hns55_0 := NB380_393.out; have hns55_1 := NB381_393.out; have hns55_2 := NB382_393.out; have hns55_3 := NB383_393.out; have hms55_0 := NB393_380.out; have hms55_1 := NB393_381.out; have hms55_2 := NB393_382.out; have hms55_3 := NB393_383.out; have hs56 := bc_ BK393 2 (.int .i64 0) rfl; have hfs56 := blk_frozen BK393.out 2; have hns56_0 := NB380_393.out; have hns56_1 := NB381_393.out; have hns56_2 := NB382_393.out; have hns56_3 := NB383_393.out; have hms56_0 := NB393_380.out; have hms56_1 := NB393_381.out; have hms56_2 := NB393_382.out; have hms56_3 := NB393_383.out
     refine skip_ (w1 := ?_) (by rfl) rfl ?_ ?_
     rotate_left
     ·go_simp
      rfl
     refine hK.out _ _ ⟨(cf3_ NB380_393.out hHeld.1), (cf3_ NB380_393.out hHeld.2.1), (cf3_ NB380_393.out hHeld.2.2.1), (cf3_ NB382_393.out hHeld.2.2.2.1), (cf3_ NB382_393.out hHeld.2.2.2.2.1), (cf3_ NB382_393.out hHeld.2.2.2.2.2.1), (cf3_ NB381_393.out hHeld.2.2.2.2.2.2.1), (cf3_ NB381_393.out hHeld.2.2.2.2.2.2.2.1), (cf3_ NB381_393.out hHeld.2.2.2.2.2.2.2.2)⟩ (fun hHeld => ?_)
     clear hK K
     refine done_ (by kernel_rfl) ?_
     have hnb57 := NB393_380.out; have hnc57 := NB380_393.out; have hnb58 := NB393_381.out; have hnc58 := NB381_393.out; have hnb59 := NB393_382.out; have hnc59 := NB382_393.out; have hnb60 := NB393_383.out; have hnc60 := NB383_393.out; obtain ⟨hcz61_0, hcz61_1, hcz61_2, hfz61_0, hfz61_1, hfz61_2⟩ := bz3_ BK393
     try go_wp2_with (first | ((with_reducible refine gc_ 130 rfl ?_); refine gl_ 29 Try.func130 #[.agg #[.int .i64 t390, .int .i64 t391, .int .i64 t392]] ?_; (with_reducible refine (impl_CarryOk.calls t390 t391 t392 true _ A47.out).mono ?_); rintro e w62 ⟨rfl, hb⟩; refine ⟨_, rfl, ?_⟩; replace BK380 := bm_ BK380 hb; replace BK381 := bm_ BK381 hb; replace BK382 := bm_ BK382 hb; replace BK383 := bm_ BK383 hb; replace BK393 := Aside0.mk (blk_below (g := gb393) (o := .cells #[.int .i64 t390, .int .i64 t391, .int .i64 t392] 46 (0, 0)) (by (with_reducible repeat (first | refine blk_drewN ?_ _ | refine blk_drew ?_ | refine blk_alloc ?_ _)); refine blk_put (cs := #[.int .i64 t390, .int .i64 t391, .int .i64 0]) ?_ 2 _ rfl; (with_reducible repeat (first | refine blk_drewN ?_ _ | refine blk_drew ?_ | refine blk_alloc ?_ _)); refine blk_put (cs := #[.int .i64 t390, .int .i64 0, .int .i64 0]) ?_ 1 _ rfl; (with_reducible repeat (first | refine blk_drewN ?_ _ | refine blk_drew ?_ | refine blk_alloc ?_ _)); refine blk_put (cs := #[.int .i64 0, .int .i64 0, .int .i64 0]) ?_ 0 _ rfl; exact bk_ BK393) hb); replace HB := Aside0.mk (below_step (bf_ HB) hb); (try clear hb); (try clear hb2); (try clear hk); (try clear hi); obtain ⟨hcz63_0, hcz63_1, hcz63_2, hfz63_0, hfz63_1, hfz63_2⟩ := bz3_ BK393; have hnb64 := NB383_380.out; have hnc64 := NB380_383.out; have hnb65 := NB383_381.out; have hnc65 := NB381_383.out; have hnb66 := NB383_382.out; have hnc66 := NB382_383.out; obtain ⟨hcz67_0, hcz67_1, hcz67_2, hfz67_0, hfz67_1, hfz67_2⟩ := bz3_ BK383))
     refine bodyPost_ret (results_ct rfl _ _ gb383 46 #[.int .i64 t390, .int .i64 t391, .int .i64 t392] (0, 0) _ rfl (by (with_reducible repeat (first | refine blk_drewN ?_ _ | refine blk_drew ?_ | refine blk_alloc ?_ _)); refine blk_put (cs := #[.int .i64 t390, .int .i64 t391, .int .i64 0]) ?_ 2 _ rfl; (with_reducible repeat (first | refine blk_drewN ?_ _ | refine blk_drew ?_ | refine blk_alloc ?_ _)); refine blk_put (cs := #[.int .i64 t390, .int .i64 0, .int .i64 0]) ?_ 1 _ rfl; (with_reducible repeat (first | refine blk_drewN ?_ _ | refine blk_drew ?_ | refine blk_alloc ?_ _)); refine blk_put (cs := #[.int .i64 0, .int .i64 0, .int .i64 0]) ?_ 0 _ rfl; exact bk_ BK383) Try.underlying46 rfl (by kernel_rfl)) rfl ?_
     exact ⟨by first | rfl | (simp [errW_none, errW_some] <;> rfl) | (simp [*, errW_none, errW_some] <;> rfl), bf_ HB⟩
    ·replace c48 := Bool.eq_false_iff.mpr c48
     subst c48
     have H1 : (some (0, 0, 0, false)) = some (r1, r2, r3, r4) := by rw [if_neg (show ¬ (false = true) by decide)] at H; exact H
     clear H
     have H := H1
     clear H1
     simp only [Option.some.injEq, Prod.mk.injEq] at H
     obtain ⟨rfl, rfl, rfl, rfl⟩ := H
     try go_wp2
     replace BK380 := Aside0.mk (blk_drew BK380.out); replace BK381 := Aside0.mk (blk_drew BK381.out); replace BK382 := Aside0.mk (blk_drew BK382.out); replace BK383 := Aside0.mk (blk_drew BK383.out); replace HB := Aside0.mk (below_drew1 HB.out)
     refine start_ (n := 7) (S := fun w' => cw_ w' gb380 0 (.int .i64 a0_0) ∧ cw_ w' gb380 1 (.int .i64 a0_1) ∧ cw_ w' gb380 2 (.int .i64 a0_2) ∧ cw_ w' gb382 0 (.int .i64 a2_0) ∧ cw_ w' gb382 1 (.int .i64 a2_1) ∧ cw_ w' gb382 2 (.int .i64 a2_2) ∧ cw_ w' gb381 0 (.int .i64 a1_0) ∧ cw_ w' gb381 1 (.int .i64 a1_1) ∧ cw_ w' gb381 2 (.int .i64 a1_2)) (ds := []) (bs 7 0) (by kernel_rfl) rfl rfl ⟨bt_ BK380 0, bt_ BK380 1, bt_ BK380 2, bt_ BK382 0, bt_ BK382 1, bt_ BK382 2, bt_ BK381 0, bt_ BK381 1, bt_ BK381 2⟩ (fun hHeld => ?_)
     generalize wc.drew = w68 at BK380 BK381 BK382 BK383 HB hHeld ⊢
     refine tk0_ 0 23 (bs 7 1) hHeld ?_
     refine tk0_ 1 24 (bs 7 2) hHeld ?_
     refine tk0_ 3 26 #[oT,oT,oF,oT,oF,oF,oF] hHeld ?_
     refine join_ (σ := Nat) 1 (bs 7 6) (fun s_ => [(25, .agg #[.int .i64 t387, .int .i64 t388, .int .i64 t389]), (27, .agg #[.int .i64 t390, .int .i64 t391, .int .i64 t392]), (8, .pointer (some ⟨s_, 0, none⟩))]) (fun s_ w' => (w'.cell? ⟨gb380, 0, none⟩ = some (.int .i64 a0_0) ∧ w'.cell? ⟨gb380, 1, none⟩ = some (.int .i64 a0_1) ∧ w'.cell? ⟨gb380, 2, none⟩ = some (.int .i64 a0_2) ∧ w'.cell? ⟨gb382, 0, none⟩ = some (.int .i64 a2_0) ∧ w'.cell? ⟨gb382, 1, none⟩ = some (.int .i64 a2_1) ∧ w'.cell? ⟨gb382, 2, none⟩ = some (.int .i64 a2_2) ∧ w'.cell? ⟨gb381, 0, none⟩ = some (.int .i64 a1_0) ∧ w'.cell? ⟨gb381, 1, none⟩ = some (.int .i64 a1_1) ∧ w'.cell? ⟨gb381, 2, none⟩ = some (.int .i64 a1_2)) ∧ (w'.heap[gb380]? = some (.cells #[.int .i64 a0_0, .int .i64 a0_1, .int .i64 a0_2] 46 (0, 0))) ∧ (w'.heap[gb381]? = some (.cells #[.int .i64 a1_0, .int .i64 a1_1, .int .i64 a1_2] 46 (0, 0))) ∧ (w'.heap[gb382]? = some (.cells #[.int .i64 a2_0, .int .i64 a2_1, .int .i64 a2_2] 46 (0, 0))) ∧ (w'.heap[gb383]? = some (.cells #[.int .i64 0, .int .i64 0, .int .i64 0] 46 (0, 0))) ∧ (w'.heap[s_]? = some (.cells #[.int .i64 0, .int .i64 0, .int .i64 0] 46 (0, 0))) ∧ (w.heap.size ≤ s_) ∧ (w.heap.size ≤ s_) ∧ (gb380 ≠ s_) ∧ (s_ ≠ gb380) ∧ (gb381 ≠ s_) ∧ (s_ ≠ gb381) ∧ (gb382 ≠ s_) ∧ (s_ ≠ gb382) ∧ (gb383 ≠ s_) ∧ (s_ ≠ gb383) ∧ (Below w.heap.size w w')) ?_ ?_
     rotate_left
     ·intro hCont
      refine two_ (i := 2) (j := 5) (Ni := some 25) (Nj := some 8) (bs 7 4) #[oT,oT,oF,oT,oF,oT,oF] rfl rfl rfl rfl (by kernel_rfl) (by decide) (by decide) (fun K hK => ?_) (fun K hK => ?_)
      ·skip
       refine gs_ Try.func131 #[.agg #[.int .i64 a0_0, .int .i64 a0_1, .int .i64 a0_2], .agg #[.int .i64 a2_0, .int .i64 a2_1, .int .i64 a2_2]] ?_
       with_reducible refine (impl_Vec_plus.calls a0_0 a0_1 a0_2 a2_0 a2_1 a2_2 t387 t388 t389 _ A45.out).mono ?_
       rintro e w69 ⟨rfl, hb⟩
       refine ⟨_, rfl, ?_⟩
       replace BK380 := bb_ BK380 hb; replace BK381 := bb_ BK381 hb; replace BK382 := bb_ BK382 hb; replace BK383 := bb_ BK383 hb; replace HB := Aside0.mk (below_step (bf_ HB) hb); (try clear hb); (try clear hb2); (try clear hk); (try clear hi)
       refine hK.out _ _ ⟨bt_ BK380 0, bt_ BK380 1, bt_ BK380 2, bt_ BK382 0, bt_ BK382 1, bt_ BK382 2, bt_ BK381 0, bt_ BK381 1, bt_ BK381 2⟩ (fun hHeld => ?_)
       clear hK K
       refine norm_ (a' := ?_) ?_ ?_
       rotate_left
       ·show Act.put _ (some 25) _ = _
        simp only [Act.put, ls0_, ls1_, ls2_, i64_w, i32_w]
        rfl
       refine two_ (i := 4) (j := 5) (Ni := some 27) (Nj := some 8) (bs 7 5) #[oT,oT,oT,oT,oF,oT,oF] rfl rfl rfl rfl (by kernel_rfl) (by decide) (by decide) (fun K hK => ?_) (fun K hK => ?_)
       ·skip
        refine gs_ Try.func135 #[.agg #[.int .i64 t387, .int .i64 t388, .int .i64 t389], .agg #[.int .i64 a1_0, .int .i64 a1_1, .int .i64 a1_2]] ?_
        with_reducible refine (impl_Vec_minus.calls t387 t388 t389 a1_0 a1_1 a1_2 t390 t391 t392 _ A46.out).mono ?_
        rintro e w70 ⟨rfl, hb⟩
        refine ⟨_, rfl, ?_⟩
        replace BK380 := bb_ BK380 hb; replace BK381 := bb_ BK381 hb; replace BK382 := bb_ BK382 hb; replace BK383 := bb_ BK383 hb; replace HB := Aside0.mk (below_step (bf_ HB) hb); (try clear hb); (try clear hb2); (try clear hk); (try clear hi)
        refine hK.out _ _ ⟨bt_ BK380 0, bt_ BK380 1, bt_ BK380 2, bt_ BK382 0, bt_ BK382 1, bt_ BK382 2, bt_ BK381 0, bt_ BK381 1, bt_ BK381 2⟩ (fun hHeld => ?_)
        clear hK K
        refine norm_ (a' := ?_) ?_ ?_
        rotate_left
        ·show Act.put _ (some 27) _ = _
         simp only [Act.put, ls0_, ls1_, ls2_, i64_w, i32_w]
         rfl
        refine on0_ 5 (some 8) (bs 7 6) (fun K hK => ?_)
        refine box_step ?hg (N := 8) ?hd (cs := #[.int .i64 0, .int .i64 0, .int .i64 0]) (t := 46) ?hr ?_; (case hd => rfl); (case hg => rfl); (case hr => first | (go_simp; done) | (go_simp; rfl))
        intro gb393 hg w71 hbox hb
        have BK393 := Aside0.mk (hbox); have GW393 := gw_ HB hg; have GE393 := gw_ HB hg; replace HB := Aside0.mk (below_step (bf_ HB) hb); have NB380_393 := nl_ BK380 hg; have NB393_380 := ng_ BK380 hg; replace BK380 := bb_ BK380 hb; have NB381_393 := nl_ BK381 hg; have NB393_381 := ng_ BK381 hg; replace BK381 := bb_ BK381 hb; have NB382_393 := nl_ BK382 hg; have NB393_382 := ng_ BK382 hg; replace BK382 := bb_ BK382 hb; have NB383_393 := nl_ BK383 hg; have NB393_383 := ng_ BK383 hg; replace BK383 := bb_ BK383 hb; clear hb hbox hg
        refine hK.out _ _ ⟨bt_ BK380 0, bt_ BK380 1, bt_ BK380 2, bt_ BK382 0, bt_ BK382 1, bt_ BK382 2, bt_ BK381 0, bt_ BK381 1, bt_ BK381 2⟩ (fun hHeld => ?_)
        clear hK K
        refine norm_ (a' := ?_) ?_ ?_
        rotate_left
        ·show Act.put _ (some 8) _ = _
         simp only [Act.put, ls0_, ls1_, ls2_, i64_w, i32_w]
         rfl
        exact norm_ (by simp only [putAll, Act.put, ls0_, ls1_, ls2_]) (hCont (gb393) _ ⟨hHeld, (bk_ BK380), (bk_ BK381), (bk_ BK382), (bk_ BK383), (bk_ BK393), GW393.out, GE393.out, NB380_393.out, NB393_380.out, NB381_393.out, NB393_381.out, NB382_393.out, NB393_382.out, NB383_393.out, NB393_383.out, (bf_ HB)⟩)
       ·skip
        refine box_step ?hg (N := 8) ?hd (cs := #[.int .i64 0, .int .i64 0, .int .i64 0]) (t := 46) ?hr ?_; (case hd => rfl); (case hg => rfl); (case hr => first | (go_simp; done) | (go_simp; rfl))
        intro gb393 hg w70 hbox hb
        have BK393 := Aside0.mk (hbox); have GW393 := gw_ HB hg; have GE393 := gw_ HB hg; replace HB := Aside0.mk (below_step (bf_ HB) hb); have NB380_393 := nl_ BK380 hg; have NB393_380 := ng_ BK380 hg; replace BK380 := bb_ BK380 hb; have NB381_393 := nl_ BK381 hg; have NB393_381 := ng_ BK381 hg; replace BK381 := bb_ BK381 hb; have NB382_393 := nl_ BK382 hg; have NB393_382 := ng_ BK382 hg; replace BK382 := bb_ BK382 hb; have NB383_393 := nl_ BK383 hg; have NB393_383 := ng_ BK383 hg; replace BK383 := bb_ BK383 hb; clear hb hbox hg
        refine hK.out _ _ ⟨bt_ BK380 0, bt_ BK380 1, bt_ BK380 2, bt_ BK382 0, bt_ BK382 1, bt_ BK382 2, bt_ BK381 0, bt_ BK381 1, bt_ BK381 2⟩ (fun hHeld => ?_)
        clear hK K
        refine norm_ (a' := ?_) ?_ ?_
        rotate_left
        ·show Act.put _ (some 8) _ = _
         simp only [Act.put, ls0_, ls1_, ls2_, i64_w, i32_w]
         rfl
        refine on0_ 4 (some 27) (bs 7 6) (fun K hK => ?_)
        refine gs_ Try.func135 #[.agg #[.int .i64 t387, .int .i64 t388, .int .i64 t389], .agg #[.int .i64 a1_0, .int .i64 a1_1, .int .i64 a1_2]] ?_
        with_reducible refine (impl_Vec_minus.calls t387 t388 t389 a1_0 a1_1 a1_2 t390 t391 t392 _ A46.out).mono ?_
        rintro e w71 ⟨rfl, hb⟩
        refine ⟨_, rfl, ?_⟩
        replace BK380 := bb_ BK380 hb; replace BK381 := bb_ BK381 hb; replace BK382 := bb_ BK382 hb; replace BK383 := bb_ BK383 hb; replace BK393 := bb_ BK393 hb; replace HB := Aside0.mk (below_step (bf_ HB) hb); (try clear hb); (try clear hb2); (try clear hk); (try clear hi)
        refine hK.out _ _ ⟨bt_ BK380 0, bt_ BK380 1, bt_ BK380 2, bt_ BK382 0, bt_ BK382 1, bt_ BK382 2, bt_ BK381 0, bt_ BK381 1, bt_ BK381 2⟩ (fun hHeld => ?_)
        clear hK K
        refine norm_ (a' := ?_) ?_ ?_
        rotate_left
        ·show Act.put _ (some 27) _ = _
         simp only [Act.put, ls0_, ls1_, ls2_, i64_w, i32_w]
         rfl
        exact norm_ (by simp only [putAll, Act.put, ls0_, ls1_, ls2_]) (hCont (gb393) _ ⟨hHeld, (bk_ BK380), (bk_ BK381), (bk_ BK382), (bk_ BK383), (bk_ BK393), GW393.out, GE393.out, NB380_393.out, NB393_380.out, NB381_393.out, NB393_381.out, NB382_393.out, NB393_382.out, NB383_393.out, NB393_383.out, (bf_ HB)⟩)
      ·skip
       refine box_step ?hg (N := 8) ?hd (cs := #[.int .i64 0, .int .i64 0, .int .i64 0]) (t := 46) ?hr ?_; (case hd => rfl); (case hg => rfl); (case hr => first | (go_simp; done) | (go_simp; rfl))
       intro gb393 hg w69 hbox hb
       have BK393 := Aside0.mk (hbox); have GW393 := gw_ HB hg; have GE393 := gw_ HB hg; replace HB := Aside0.mk (below_step (bf_ HB) hb); have NB380_393 := nl_ BK380 hg; have NB393_380 := ng_ BK380 hg; replace BK380 := bb_ BK380 hb; have NB381_393 := nl_ BK381 hg; have NB393_381 := ng_ BK381 hg; replace BK381 := bb_ BK381 hb; have NB382_393 := nl_ BK382 hg; have NB393_382 := ng_ BK382 hg; replace BK382 := bb_ BK382 hb; have NB383_393 := nl_ BK383 hg; have NB393_383 := ng_ BK383 hg; replace BK383 := bb_ BK383 hb; clear hb hbox hg
       refine hK.out _ _ ⟨bt_ BK380 0, bt_ BK380 1, bt_ BK380 2, bt_ BK382 0, bt_ BK382 1, bt_ BK382 2, bt_ BK381 0, bt_ BK381 1, bt_ BK381 2⟩ (fun hHeld => ?_)
       clear hK K
       refine norm_ (a' := ?_) ?_ ?_
       rotate_left
       ·show Act.put _ (some 8) _ = _
        simp only [Act.put, ls0_, ls1_, ls2_, i64_w, i32_w]
        rfl
       refine on0_ 2 (some 25) #[oT,oT,oT,oT,oF,oT,oF] (fun K hK => ?_)
       refine gs_ Try.func131 #[.agg #[.int .i64 a0_0, .int .i64 a0_1, .int .i64 a0_2], .agg #[.int .i64 a2_0, .int .i64 a2_1, .int .i64 a2_2]] ?_
       with_reducible refine (impl_Vec_plus.calls a0_0 a0_1 a0_2 a2_0 a2_1 a2_2 t387 t388 t389 _ A45.out).mono ?_
       rintro e w70 ⟨rfl, hb⟩
       refine ⟨_, rfl, ?_⟩
       replace BK380 := bb_ BK380 hb; replace BK381 := bb_ BK381 hb; replace BK382 := bb_ BK382 hb; replace BK383 := bb_ BK383 hb; replace BK393 := bb_ BK393 hb; replace HB := Aside0.mk (below_step (bf_ HB) hb); (try clear hb); (try clear hb2); (try clear hk); (try clear hi)
       refine hK.out _ _ ⟨bt_ BK380 0, bt_ BK380 1, bt_ BK380 2, bt_ BK382 0, bt_ BK382 1, bt_ BK382 2, bt_ BK381 0, bt_ BK381 1, bt_ BK381 2⟩ (fun hHeld => ?_)
       clear hK K
       refine norm_ (a' := ?_) ?_ ?_
       rotate_left
       ·show Act.put _ (some 25) _ = _
        simp only [Act.put, ls0_, ls1_, ls2_, i64_w, i32_w]
        rfl
       refine on0_ 4 (some 27) (bs 7 6) (fun K hK => ?_)
       refine gs_ Try.func135 #[.agg #[.int .i64 t387, .int .i64 t388, .int .i64 t389], .agg #[.int .i64 a1_0, .int .i64 a1_1, .int .i64 a1_2]] ?_
       with_reducible refine (impl_Vec_minus.calls t387 t388 t389 a1_0 a1_1 a1_2 t390 t391 t392 _ A46.out).mono ?_
       rintro e w71 ⟨rfl, hb⟩
       refine ⟨_, rfl, ?_⟩
       replace BK380 := bb_ BK380 hb; replace BK381 := bb_ BK381 hb; replace BK382 := bb_ BK382 hb; replace BK383 := bb_ BK383 hb; replace BK393 := bb_ BK393 hb; replace HB := Aside0.mk (below_step (bf_ HB) hb); (try clear hb); (try clear hb2); (try clear hk); (try clear hi)
       refine hK.out _ _ ⟨bt_ BK380 0, bt_ BK380 1, bt_ BK380 2, bt_ BK382 0, bt_ BK382 1, bt_ BK382 2, bt_ BK381 0, bt_ BK381 1, bt_ BK381 2⟩ (fun hHeld => ?_)
       clear hK K
       refine norm_ (a' := ?_) ?_ ?_
       rotate_left
       ·show Act.put _ (some 27) _ = _
        simp only [Act.put, ls0_, ls1_, ls2_, i64_w, i32_w]
        rfl
       exact norm_ (by simp only [putAll, Act.put, ls0_, ls1_, ls2_]) (hCont (gb393) _ ⟨hHeld, (bk_ BK380), (bk_ BK381), (bk_ BK382), (bk_ BK383), (bk_ BK393), GW393.out, GE393.out, NB380_393.out, NB393_380.out, NB381_393.out, NB393_381.out, NB382_393.out, NB393_382.out, NB383_393.out, NB393_383.out, (bf_ HB)⟩)
     rintro gb393 w72 ⟨hS_, h0_, h1_, h2_, h3_, h4_, h5_, h6_, h7_, h8_, h9_, h10_, h11_, h12_, h13_, h14_, h15_⟩
     have n0_ : Aside0 (w72.heap[gb380]? = some (.cells #[.int .i64 a0_0, .int .i64 a0_1, .int .i64 a0_2] 46 (0, 0))) := ⟨h0_⟩
     have n1_ : Aside0 (w72.heap[gb381]? = some (.cells #[.int .i64 a1_0, .int .i64 a1_1, .int .i64 a1_2] 46 (0, 0))) := ⟨h1_⟩
     have n2_ : Aside0 (w72.heap[gb382]? = some (.cells #[.int .i64 a2_0, .int .i64 a2_1, .int .i64 a2_2] 46 (0, 0))) := ⟨h2_⟩
     have n3_ : Aside0 (w72.heap[gb383]? = some (.cells #[.int .i64 0, .int .i64 0, .int .i64 0] 46 (0, 0))) := ⟨h3_⟩
     have n4_ : Aside0 (w72.heap[gb393]? = some (.cells #[.int .i64 0, .int .i64 0, .int .i64 0] 46 (0, 0))) := ⟨h4_⟩
     have n5_ : Aside0 (w.heap.size ≤ gb393) := ⟨h5_⟩
     have n6_ : Aside0 (w.heap.size ≤ gb393) := ⟨h6_⟩
     have n7_ : Aside0 (gb380 ≠ gb393) := ⟨h7_⟩
     have n8_ : Aside0 (gb393 ≠ gb380) := ⟨h8_⟩
     have n9_ : Aside0 (gb381 ≠ gb393) := ⟨h9_⟩
     have n10_ : Aside0 (gb393 ≠ gb381) := ⟨h10_⟩
     have n11_ : Aside0 (gb382 ≠ gb393) := ⟨h11_⟩
     have n12_ : Aside0 (gb393 ≠ gb382) := ⟨h12_⟩
     have n13_ : Aside0 (gb383 ≠ gb393) := ⟨h13_⟩
     have n14_ : Aside0 (gb393 ≠ gb383) := ⟨h14_⟩
     have n15_ : Aside0 (Below w.heap.size w w72) := ⟨h15_⟩
     clear BK380 BK381 BK382 BK383 HB h0_ h1_ h2_ h3_ h4_ h5_ h6_ h7_ h8_ h9_ h10_ h11_ h12_ h13_ h14_ h15_; have BK380 := n0_; have BK381 := n1_; have BK382 := n2_; have BK383 := n3_; have BK393 := n4_; have GW393 := n5_; have GE393 := n6_; have NB380_393 := n7_; have NB393_380 := n8_; have NB381_393 := n9_; have NB393_381 := n10_; have NB382_393 := n11_; have NB393_382 := n12_; have NB383_393 := n13_; have NB393_383 := n14_; have HB := n15_; clear n0_ n1_ n2_ n3_ n4_ n5_ n6_ n7_ n8_ n9_ n10_ n11_ n12_ n13_ n14_ n15_
     have hHeld : w72.cell? ⟨gb380, 0, none⟩ = some (.int .i64 a0_0) ∧ w72.cell? ⟨gb380, 1, none⟩ = some (.int .i64 a0_1) ∧ w72.cell? ⟨gb380, 2, none⟩ = some (.int .i64 a0_2) ∧ w72.cell? ⟨gb382, 0, none⟩ = some (.int .i64 a2_0) ∧ w72.cell? ⟨gb382, 1, none⟩ = some (.int .i64 a2_1) ∧ w72.cell? ⟨gb382, 2, none⟩ = some (.int .i64 a2_2) ∧ w72.cell? ⟨gb381, 0, none⟩ = some (.int .i64 a1_0) ∧ w72.cell? ⟨gb381, 1, none⟩ = some (.int .i64 a1_1) ∧ w72.cell? ⟨gb381, 2, none⟩ = some (.int .i64 a1_2) := hS_
     refine norm_ (a' := ?_) ?_ ?_
     rotate_left
     ·simp only [putAll, Act.put, ls0_, ls1_, ls2_]
      rfl
     refine on0_ 6 none (bs 7 7) (fun K hK => ?_)
     have hs73 := bc_ BK393 0 (.int .i64 0) rfl; have hfs73 := blk_frozen BK393.out 0; have hns73_0 := NB380_393.out; have hns73_1 := NB381_393.out; have hns73_2 := NB382_393.out; have hns73_3 := NB383_393.out; have hms73_0 := NB393_380.out; have hms73_1 := NB393_381.out; have hms73_2 := NB393_382.out; have hms73_3 := NB393_383.out; have hs74 := bc_ BK393 1 (.int .i64 0) rfl; have hfs74 := blk_frozen BK393.out 1; have hns74_0 := NB380_393.out; have hns74_1 := NB381_393.out; have hns74_2 := NB382_393.out; have hns74_3 := NB383_393.out; have hms74_0 := NB393_380.out; have hms74_1 := NB393_381.out; have hms74_2 := NB393_382.out; have hms74_3 := NB393_383.out; have hs75 := bc_ BK393 2 (.int .i64 0) rfl; have hfs75 := blk_frozen BK393.out 2; have hns75_0 := NB380_393.out; have hns75_1 := NB381_393.out; have hns75_2 := NB382_393.out; have hns75_3 := NB383_393.out; have hms75_0 := NB393_380.out; have hms75_1 := NB393_381.out; have hms75_2 := NB393_382.out; have hms75_3 := NB393_383.out
     refine skip_ (w1 := ?_) (by rfl) rfl ?_ ?_
     rotate_left
     ·go_simp
      rfl
     refine hK.out _ _ ⟨(cf3_ NB380_393.out hHeld.1), (cf3_ NB380_393.out hHeld.2.1), (cf3_ NB380_393.out hHeld.2.2.1), (cf3_ NB382_393.out hHeld.2.2.2.1), (cf3_ NB382_393.out hHeld.2.2.2.2.1), (cf3_ NB382_393.out hHeld.2.2.2.2.2.1), (cf3_ NB381_393.out hHeld.2.2.2.2.2.2.1), (cf3_ NB381_393.out hHeld.2.2.2.2.2.2.2.1), (cf3_ NB381_393.out hHeld.2.2.2.2.2.2.2.2)⟩ (fun hHeld => ?_)
     clear hK K
     refine done_ (by kernel_rfl) ?_
     have hnb76 := NB393_380.out; have hnc76 := NB380_393.out; have hnb77 := NB393_381.out; have hnc77 := NB381_393.out; have hnb78 := NB393_382.out; have hnc78 := NB382_393.out; have hnb79 := NB393_383.out; have hnc79 := NB383_393.out; obtain ⟨hcz80_0, hcz80_1, hcz80_2, hfz80_0, hfz80_1, hfz80_2⟩ := bz3_ BK393
     try go_wp2_with (first | ((with_reducible refine gc_ 130 rfl ?_); refine gl_ 29 Try.func130 #[.agg #[.int .i64 t390, .int .i64 t391, .int .i64 t392]] ?_; (with_reducible refine (impl_CarryOk.calls t390 t391 t392 false _ A47.out).mono ?_); rintro e w81 ⟨rfl, hb⟩; refine ⟨_, rfl, ?_⟩; replace BK380 := bm_ BK380 hb; replace BK381 := bm_ BK381 hb; replace BK382 := bm_ BK382 hb; replace BK383 := bm_ BK383 hb; replace BK393 := Aside0.mk (blk_below (g := gb393) (o := .cells #[.int .i64 t390, .int .i64 t391, .int .i64 t392] 46 (0, 0)) (by (with_reducible repeat (first | refine blk_drewN ?_ _ | refine blk_drew ?_ | refine blk_alloc ?_ _)); refine blk_put (cs := #[.int .i64 t390, .int .i64 t391, .int .i64 0]) ?_ 2 _ rfl; (with_reducible repeat (first | refine blk_drewN ?_ _ | refine blk_drew ?_ | refine blk_alloc ?_ _)); refine blk_put (cs := #[.int .i64 t390, .int .i64 0, .int .i64 0]) ?_ 1 _ rfl; (with_reducible repeat (first | refine blk_drewN ?_ _ | refine blk_drew ?_ | refine blk_alloc ?_ _)); refine blk_put (cs := #[.int .i64 0, .int .i64 0, .int .i64 0]) ?_ 0 _ rfl; exact bk_ BK393) hb); replace HB := Aside0.mk (below_step (bf_ HB) hb); (try clear hb); (try clear hb2); (try clear hk); (try clear hi); have hnb82 := NB383_380.out; have hnc82 := NB380_383.out; have hnb83 := NB383_381.out; have hnc83 := NB381_383.out; have hnb84 := NB383_382.out; have hnc84 := NB382_383.out; obtain ⟨hcz85_0, hcz85_1, hcz85_2, hfz85_0, hfz85_1, hfz85_2⟩ := bz3_ BK383))
     refine bodyPost_ret (results_ct rfl _ _ gb383 46 #[.int .i64 0, .int .i64 0, .int .i64 0] (0, 0) _ rfl (by (with_reducible repeat (first | refine blk_drewN ?_ _ | refine blk_drew ?_ | refine blk_alloc ?_ _)); refine blk_put (cs := #[.int .i64 0, .int .i64 0, .int .i64 0]) ?_ 2 _ rfl; (with_reducible repeat (first | refine blk_drewN ?_ _ | refine blk_drew ?_ | refine blk_alloc ?_ _)); refine blk_put (cs := #[.int .i64 0, .int .i64 0, .int .i64 0]) ?_ 1 _ rfl; (with_reducible repeat (first | refine blk_drewN ?_ _ | refine blk_drew ?_ | refine blk_alloc ?_ _)); refine blk_put (cs := #[.int .i64 0, .int .i64 0, .int .i64 0]) ?_ 0 _ rfl; exact bk_ BK383) Try.underlying46 rfl (by kernel_rfl)) rfl ?_
     exact ⟨by first | rfl | (simp [errW_none, errW_some] <;> rfl) | (simp [*, errW_none, errW_some] <;> rfl), bf_ HB⟩

end Go.Proofs.Ytlafobfjbkhioaa.PFnCarryBound
