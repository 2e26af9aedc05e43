-- printed by a program of this session (wip/printx) out of the translation; Lean checks it
import Derived.Test.YtaglpjlapfocfaaXSq
import Derived.Test.YtaglpjlapfocfaaPFnExactStorePutx0
import Derived.Test.YtaglpjlapfocfaaPFnExactStorePutx2
import Derived.Test.YtaglpjlapfocfaaPFnExactStorePutx3
namespace Go.Proofs.Ytaglpjlapfocfaa.PFnExactStorePut
open Go.RowKit Go.Proofs.YtaglpjlapfocfaaW.PrintWords Go.Proofs.YtaglpjlapfocfaaW.PrintLast Go.Proofs.YtaglpjlapfocfaaW.PrintMore
attribute [local go_sem] max2_int min2_int max_two min_two max_three min_three max_four min_four   -- for this text's walks alone
set_option linter.unusedVariables false
set_option linter.unusedSimpArgs false

/-! ### impl_SlabTake: function 45 -/
def impl_SlabTake.j0 : Nat → Int → Bool → Int → List Int → Option (Int × List Int × Int × Int)
  | 0, _, _, _, _ => none
  | k + 1, x1, x16, x200000, x200001 => if x16 = true then (some (0, ([] : List Int), (-1), 1)) else ((impl_Slab_chain.f k x200000 x200001 x200000).bind fun t202 => (if (t202.length : Int) < x1 then (some (0, ([] : List Int), (-1), 2)) else ((impl_copySlab.f x200000 x200001).bind fun bt205 => (if 0 ≤ (wrap64 (x1 - 1)) then (if (wrap64 (x1 - 1)) < (t202.length : Int) then (if 0 ≤ (rd t202 (wrap64 (x1 - 1))) then (if (rd t202 (wrap64 (x1 - 1))) < (x200001.length : Int) then (if (rd t202 (wrap64 (x1 - 1))) < (bt205.2.length : Int) then (some (rd x200001 (rd t202 (wrap64 (x1 - 1))), (bt205.2.set ((rd t202 (wrap64 (x1 - 1))) : Int).toNat (-1)), x200000, 0)) else (none)) else (none)) else (none)) else (none)) else (none)))))
def impl_SlabTake.f (k : Nat) (a0_0 : Int) (l0_1 : List Int) (a1 : Int) : Option (Int × List Int × Int × Int) := (impl_SlabOk.f k a0_0 l0_1).bind fun t201 => (if t201 = true then (impl_SlabTake.j0 k a1 (decide (a1 < 1)) a0_0 l0_1) else (impl_SlabTake.j0 k a1 true a0_0 l0_1))
theorem impl_SlabTake.mono_l : ∀ k, (∀ y0 y1 y2 y3, LeO (impl_SlabTake.j0 k y0 y1 y2 y3) (impl_SlabTake.j0 (k + 1) y0 y1 y2 y3))
 | 0 => fun _ _ _ _ r h => by simp [impl_SlabTake.j0] at h
 | k + 1 => by
  have ih0 := impl_SlabTake.mono_l k
  ·intro y0 y1 y2 y3
   unfold impl_SlabTake.j0
   repeat' first
   | (with_reducible exact ih0 _ _ _ _)
   | (with_reducible exact impl_SlabOk.mono _ _ _)
   | (with_reducible exact impl_Slab_chain.mono _ _ _ _)
   | (with_reducible exact LeO.refl _)
   | (with_reducible exact LeO.none _)
   | (with_reducible refine LeO.ite ?_ ?_)
   | (with_reducible refine LeO.bind ?_ (fun _ => ?_))
   | exact ih0 _ _ _ _
   | exact impl_SlabOk.mono _ _ _
   | exact impl_Slab_chain.mono _ _ _ _
   | exact LeO.none _
   | refine LeO.ite ?_ ?_
   | refine LeO.bind ?_ (fun _ => ?_)
theorem impl_SlabTake.mono : ∀ a0 a1 a2 k, LeO (impl_SlabTake.f k a0 a1 a2) (impl_SlabTake.f (k + 1) a0 a1 a2) := by
 intro a0 a1 a2 k
 have ih0 := impl_SlabTake.mono_l k
 unfold impl_SlabTake.f
 repeat' first
   | (with_reducible exact ih0 _ _ _ _)
   | (with_reducible exact impl_SlabOk.mono _ _ _)
   | (with_reducible exact impl_Slab_chain.mono _ _ _ _)
   | (with_reducible exact LeO.refl _)
   | (with_reducible exact LeO.none _)
   | (with_reducible refine LeO.ite ?_ ?_)
   | (with_reducible refine LeO.bind ?_ (fun _ => ?_))
   | exact ih0 _ _ _ _
   | exact impl_SlabOk.mono _ _ _
   | exact impl_Slab_chain.mono _ _ _ _
   | exact LeO.none _
   | refine LeO.ite ?_ ?_
   | refine LeO.bind ?_ (fun _ => ?_)
def impl_SlabTake.T6 : Bool × List (List Nat × List Nat) := (true, [([], []), ([0], [0]), ([], []), ([], []), ([3], [3]), ([2, 4], [2, 4]), ([5], [5]), ([], []), ([7, 1, 1, 0, 1, 7], [1, 7]), ([6, 8, 0, 1, 2, 3, 4, 5, 6, 7, 8], [6])])
def impl_SlabTake.B6 : List Nat := [0, 1, 0, 0, 8, 28, 60, 0, 131, 511]
theorem impl_SlabTake.tab6 : rtab .any (opsOf Try.f45 6) = impl_SlabTake.T6 := by kernel_rfl
theorem impl_SlabTake.bits6 : waitsOk impl_SlabTake.T6.2 impl_SlabTake.B6 = true := by kernel_rfl
def impl_SlabTake.T7 : Bool × List (List Nat × List Nat) := (true, [([], []), ([0], [0]), ([], []), ([], []), ([3], [3]), ([], []), ([4, 5], [4, 5]), ([6], [6]), ([0, 1, 3, 4, 5, 6, 7], []), ([8, 7, 0, 1, 3, 4, 5, 6, 7], [7, 8]), ([1, 2, 0, 1, 2, 3, 4, 5, 6, 7, 8, 9], [1, 2]), ([10, 9, 0, 1, 2, 3, 4, 5, 6, 7, 8, 9], [10])])
def impl_SlabTake.B7 : List Nat := [0, 1, 0, 0, 8, 0, 56, 120, 251, 507, 1023, 2047]
theorem impl_SlabTake.tab7 : rtab .any (opsOf Try.f45 7) = impl_SlabTake.T7 := by kernel_rfl
theorem impl_SlabTake.bits7 : waitsOk impl_SlabTake.T7.2 impl_SlabTake.B7 = true := by kernel_rfl
set_option maxHeartbeats 8000000 in
set_option maxRecDepth 100000 in
theorem impl_SlabTake.calls (k : Nat) (a0_0 : Int) (A0_1 : Option Addr) (c0_1 : Nat) (l0_1 : List Int) (a1 : Int) (r1 : Int) (r2 : List Int) (r3 : Int) (r4 : Int) (w : World) (hr0_1 : Kd.C (Kd.int .i64) w A0_1 l0_1.length l0_1) (hc0_1 : l0_1.length ≤ c0_1) (h : impl_SlabTake.f k a0_0 l0_1 a1 = some (r1, r2, r3, r4)) :
  Calls Try.prog 45 #[.agg #[.int .i64 a0_0, .slice A0_1 l0_1.length c0_1], .int .i64 a1] w fun e w' => ∃ v1_ : Value, e = .returned (.tuple #[.agg #[.int .i64 r1, v1_], .int .i64 r3, .int .i64 r4]) ∧ Kd.R (Kd.int .i64) 3 w' w.heap.size (fun _ => True) v1_ r2 ∧ Below w.heap.size w w' := by
 have hu24 := Try.underlying24
 have HR0_1 := Aside0.mk hr0_1
 have HC0_1 := Aside0.mk hc0_1
 clear hr0_1 hc0_1; have HB := Aside0.mk (Below.refl w.heap.size w)
 have H : ((impl_SlabOk.f k a0_0 l0_1).bind fun t201 => (if t201 = true then (impl_SlabTake.j0 k a1 (decide (a1 < 1)) a0_0 l0_1) else (impl_SlabTake.j0 k a1 true a0_0 l0_1))) = some (r1, r2, r3, r4) := h
 clear h
 have HC3 := Aside0.mk H
 clear H
 go_enter Try.func45, Try.ntmps45
 go_upto_region 1 with (first | ((with_reducible refine gd_ 2 rfl ?_); refine bv_ 2 #[.int .i64 a0_0, .slice A0_1 l0_1.length c0_1] 24 ?_; intro gb199 hg w4 hbox hb; have BK199 := Aside0.mk (hbox); have GW199 := gw_ HB hg; have GE199 := gw_ HB hg; replace HB := Aside0.mk (below_step (be_ HB) hb); clear hb hbox hg) | ((with_reducible refine gd_ 4 rfl ?_); refine bv_ 4 #[.int .i64 0, .slice none 0 0] 24 ?_; intro gb200 hg w5 hbox hb; have BK200 := Aside0.mk (hbox); have GW200 := gw_ HB hg; have GE200 := gw_ HB hg; replace HB := Aside0.mk (below_step (bf_ HB) hb); have NB199_200 := nl_ BK199 hg; have NB200_199 := ng_ BK199 hg; replace BK199 := bb_ BK199 hb; clear hb hbox hg))
 (try simp only [Act.put, ls0_, ls1_, ls2_])
 go_cut [16] (fun v16 wc => ∃ (kq : Nat) (x16_2 : Bool), v16 = .bool x16_2 ∧ Aside0 (impl_SlabTake.j0 kq a1 x16_2 a0_0 l0_1 = some (r1, r2, r3, r4)) ∧ Aside0 (kq ≤ k) ∧ Aside0 (wc.heap[gb199]? = some (.cells #[.int .i64 a0_0, (.slice A0_1 l0_1.length c0_1)] 24 (0, 0))) ∧ Aside0 (wc.heap[gb200]? = some (.cells #[.int .i64 0, (.slice none 0 0)] 24 (0, 0))) ∧ Aside0 (Below w.heap.size w wc))
 case first =>
  have H := HC3.out
  clear HC3
  replace H := Option.bind_eq_some_iff.mp H
  obtain ⟨t201, A60, H⟩ := H
  replace H : (if t201 = true then (impl_SlabTake.j0 k a1 (decide (a1 < 1)) a0_0 l0_1) else (impl_SlabTake.j0 k a1 true a0_0 l0_1)) = some (r1, r2, r3, r4) := H
  have A6 := Aside0.mk A60
  clear A60
  by_cases c7 : t201 = true
  ·subst c7
   have H1 : (impl_SlabTake.j0 k a1 (decide (a1 < 1)) a0_0 l0_1) = some (r1, r2, r3, r4) := by rw [if_pos rfl] at H; exact H
   clear H
   have H := H1
   clear H1
   have H' := Aside0.mk H
   clear H; have hnb8 := NB199_200.out; have hnc8 := NB200_199.out; obtain ⟨hcz9_0, hcz9_1, hfz9_0, hfz9_1⟩ := bz2_ BK199
   go_wp2_with (first | ((with_reducible refine gc_ 25 rfl ?_); refine gl_ 11 Try.func25 #[.agg #[.int .i64 a0_0, .slice A0_1 l0_1.length c0_1]] ?_; (with_reducible refine (impl_SlabOk.calls k a0_0 _ _ l0_1 true _ ?side1 ?side2 A6.out).mono ?_); (case side1 => repeat (first | exact (Kd.C_below HR0_1.out HB.out) | (with_reducible refine Kd.C_alloc ?_ _) | (with_reducible refine Kd.C_drewN ?_ _) | (with_reducible refine Kd.C_drew ?_))); (case side2 => exact HC0_1.out); rintro e w10 ⟨rfl, hb⟩; refine ⟨_, rfl, ?_⟩; replace BK199 := bb_ BK199 hb; replace BK200 := bb_ BK200 hb; replace HB := Aside0.mk (below_step (bf_ HB) hb); (try clear hb); (try clear hb2); (try clear hk); (try clear hi)))
   go_meet
   case rel => exact ⟨_, (decide (a1 < 1)), (by first | rfl | (simp; done) | (simp [*]; done)), H', ⟨by first | omega | exact Nat.le_refl _⟩, ⟨bk_ BK199⟩, ⟨bk_ BK200⟩, ⟨bf_ HB⟩⟩
  ·replace c7 := Bool.eq_false_iff.mpr c7
   subst c7
   have H1 : (impl_SlabTake.j0 k a1 true a0_0 l0_1) = some (r1, r2, r3, r4) := by rw [if_neg (show ¬ (false = true) by decide)] at H; exact H
   clear H
   have H := H1
   clear H1
   have H' := Aside0.mk H
   clear H; have hnb11 := NB199_200.out; have hnc11 := NB200_199.out; obtain ⟨hcz12_0, hcz12_1, hfz12_0, hfz12_1⟩ := bz2_ BK199
   go_wp2_with (first | ((with_reducible refine gc_ 25 rfl ?_); refine gl_ 11 Try.func25 #[.agg #[.int .i64 a0_0, .slice A0_1 l0_1.length c0_1]] ?_; (with_reducible refine (impl_SlabOk.calls k a0_0 _ _ l0_1 false _ ?side1 ?side2 A6.out).mono ?_); (case side1 => repeat (first | exact (Kd.C_below HR0_1.out HB.out) | (with_reducible refine Kd.C_alloc ?_ _) | (with_reducible refine Kd.C_drewN ?_ _) | (with_reducible refine Kd.C_drew ?_))); (case side2 => exact HC0_1.out); rintro e w13 ⟨rfl, hb⟩; refine ⟨_, rfl, ?_⟩; replace BK199 := bb_ BK199 hb; replace BK200 := bb_ BK200 hb; replace HB := Aside0.mk (below_step (bf_ HB) hb); (try clear hb); (try clear hb2); (try clear hk); (try clear hi)))
   go_meet
   case rel => exact ⟨_, (true), (by first | rfl | (simp; done) | (simp [*]; done)), H', ⟨by first | omega | exact Nat.le_refl _⟩, ⟨bk_ BK199⟩, ⟨bk_ BK200⟩, ⟨bf_ HB⟩⟩
 case rest =>
  clear HC3; (try clear c1); (try clear c2); (try clear p2); (try clear c4); (try clear c7); (try clear c8); (try clear c11); (try clear hcz12_0 hcz12_1 hfz12_0 hfz12_1); (try clear hcz9_0 hcz9_1 hfz9_0 hfz9_1)
  obtain ⟨kq, x16_2, rfl, HA, HJ2, BK199, BK200, HB⟩ := hcut
  cases kq with
  | zero => exact absurd HA.out (by simp [impl_SlabTake.j0])
  | succ kj2 =>
   have H := HA.out
   clear HA
   simp only [impl_SlabTake.j0] at H
   by_cases c14 : x16_2 = true
   ·subst c14
    have H1 : (some (0, ([] : List Int), (-1), 1)) = some (r1, r2, r3, r4) := by rw [if_pos rfl] at H; exact H
    clear H
    have H := H1
    clear H1
    simp only [Option.some.injEq, Prod.mk.injEq] at H
    obtain ⟨rfl, rfl, rfl, rfl⟩ := H
    have hnb15 := NB200_199.out; have hnc15 := NB199_200.out; obtain ⟨hcz16_0, hcz16_1, hfz16_0, hfz16_1⟩ := bz2_ BK200
    go_wp2
    refine bodyPost_ret (results_ctt rfl _ _ gb200 24 #[.int .i64 0, .slice none 0 0] (0, 0) _ rfl (by (with_reducible repeat (first | refine blk_drewN ?_ _ | refine blk_drew ?_ | refine blk_alloc ?_ _)); refine blk_put (cs := #[.int .i64 0, .slice none 0 0]) ?_ 1 _ rfl; (with_reducible repeat (first | refine blk_drewN ?_ _ | refine blk_drew ?_ | refine blk_alloc ?_ _)); refine blk_put (cs := #[.int .i64 0, .slice none 0 0]) ?_ 0 _ rfl; exact bk_ BK200) Try.underlying24 rfl (by kernel_rfl)) rfl ?_
    exact ⟨_, by first | rfl | (simp [errW_none, errW_some] <;> rfl) | (simp [*, errW_none, errW_some] <;> rfl), by first | exact Kd.R_nil _ _ _ _ _ | exact Kd.N_nil _ _ _ _ _ | exact Kd.V_nil _ _ _ _ _ | exact Kd.Q_nil _ _ _ _ _ | exact Kd.S_nil _ _ _ _ _, bf_ HB⟩
   ·replace c14 := Bool.eq_false_iff.mpr c14
    subst c14
    have H1 : ((impl_Slab_chain.f kj2 a0_0 l0_1 a0_0).bind fun t202 => (if (t202.length : Int) < a1 then (some (0, ([] : List Int), (-1), 2)) else ((impl_copySlab.f a0_0 l0_1).bind fun bt205 => (if 0 ≤ (wrap64 (a1 - 1)) then (if (wrap64 (a1 - 1)) < (t202.length : Int) then (if 0 ≤ (rd t202 (wrap64 (a1 - 1))) then (if (rd t202 (wrap64 (a1 - 1))) < (l0_1.length : Int) then (if (rd t202 (wrap64 (a1 - 1))) < (bt205.2.length : Int) then (some (rd l0_1 (rd t202 (wrap64 (a1 - 1))), (bt205.2.set ((rd t202 (wrap64 (a1 - 1))) : Int).toNat (-1)), a0_0, 0)) else (none)) else (none)) else (none)) else (none)) else (none))))) = some (r1, r2, r3, r4) := by rw [if_neg (show ¬ (false = true) by decide)] at H; exact H
    clear H
    have H := H1
    clear H1
    replace H := Option.bind_eq_some_iff.mp H
    obtain ⟨t202, A170, H⟩ := H
    replace H : (if (t202.length : Int) < a1 then (some (0, ([] : List Int), (-1), 2)) else ((impl_copySlab.f a0_0 l0_1).bind fun bt205 => (if 0 ≤ (wrap64 (a1 - 1)) then (if (wrap64 (a1 - 1)) < (t202.length : Int) then (if 0 ≤ (rd t202 (wrap64 (a1 - 1))) then (if (rd t202 (wrap64 (a1 - 1))) < (l0_1.length : Int) then (if (rd t202 (wrap64 (a1 - 1))) < (bt205.2.length : Int) then (some (rd l0_1 (rd t202 (wrap64 (a1 - 1))), (bt205.2.set ((rd t202 (wrap64 (a1 - 1))) : Int).toNat (-1)), a0_0, 0)) else (none)) else (none)) else (none)) else (none)) else (none)))) = some (r1, r2, r3, r4) := H
    have A17 := Aside0.mk A170
    clear A170
    by_cases c18 : (t202.length : Int) < a1
    ·rw [if_pos c18] at H
     have c18b0 : decide ((t202.length : Int) < a1) = true := decide_eq_true c18
     clear c18
     simp only [Option.some.injEq, Prod.mk.injEq] at H
     obtain ⟨rfl, rfl, rfl, rfl⟩ := H
     have hnb19 := NB199_200.out; have hnc19 := NB200_199.out; obtain ⟨hcz20_0, hcz20_1, hfz20_0, hfz20_1⟩ := bz2_ BK199
     go_wp2_with (first | ((with_reducible refine gc_ 68 rfl ?_); refine gl_ 21 Try.func68 #[.agg #[.int .i64 a0_0, .slice A0_1 l0_1.length c0_1], .int .i64 a0_0] ?_; (with_reducible refine (impl_Slab_chain.calls kj2 a0_0 _ _ l0_1 a0_0 t202 _ ?side1 ?side2 A17.out).mono ?_); (case side1 => repeat (first | exact (Kd.C_below HR0_1.out HB.out) | (with_reducible refine Kd.C_alloc ?_ _) | (with_reducible refine Kd.C_drewN ?_ _) | (with_reducible refine Kd.C_drew ?_))); (case side2 => exact HC0_1.out); rintro e w21 ⟨v203, rfl, ho0, hb⟩; refine ⟨_, rfl, ?_⟩; have HO204 := Aside0.mk (Kd.R_lower ho0 (below_size (bf_ HB))); replace BK199 := bb_ BK199 hb; replace BK200 := bb_ BK200 hb; replace HB := Aside0.mk (below_step (bf_ HB) hb); (try clear hb); (try clear hb2); (try clear hk); (try clear hi); (try clear ho0); obtain ⟨Ao22, co22, eo22⟩ := Kd.R_slice HO204.out; subst eo22; obtain ⟨hcz23_0, hcz23_1, hfz23_0, hfz23_1⟩ := bz2_ BK200))
     refine bodyPost_ret (results_ctt rfl _ _ gb200 24 #[.int .i64 0, .slice none 0 0] (0, 0) _ rfl (by (with_reducible repeat (first | refine blk_drewN ?_ _ | refine blk_drew ?_ | refine blk_alloc ?_ _)); refine blk_put (cs := #[.int .i64 0, .slice none 0 0]) ?_ 1 _ rfl; (with_reducible repeat (first | refine blk_drewN ?_ _ | refine blk_drew ?_ | refine blk_alloc ?_ _)); refine blk_put (cs := #[.int .i64 0, .slice none 0 0]) ?_ 0 _ rfl; exact bk_ BK200) Try.underlying24 rfl (by kernel_rfl)) rfl ?_
     exact ⟨_, by first | rfl | (simp [errW_none, errW_some] <;> rfl) | (simp [*, errW_none, errW_some] <;> rfl), by first | exact Kd.R_nil _ _ _ _ _ | exact Kd.N_nil _ _ _ _ _ | exact Kd.V_nil _ _ _ _ _ | exact Kd.Q_nil _ _ _ _ _ | exact Kd.S_nil _ _ _ _ _, bf_ HB⟩
    ·rw [if_neg c18] at H
     have c18b0 : decide ((t202.length : Int) < a1) = false := decide_eq_false c18
     clear c18
     replace H := Option.bind_eq_some_iff.mp H
     obtain ⟨⟨t205, t206⟩, A240, H⟩ := H
     replace H : (if 0 ≤ (wrap64 (a1 - 1)) then (if (wrap64 (a1 - 1)) < (t202.length : Int) then (if 0 ≤ (rd t202 (wrap64 (a1 - 1))) then (if (rd t202 (wrap64 (a1 - 1))) < (l0_1.length : Int) then (if (rd t202 (wrap64 (a1 - 1))) < (t206.length : Int) then (some (rd l0_1 (rd t202 (wrap64 (a1 - 1))), (t206.set ((rd t202 (wrap64 (a1 - 1))) : Int).toNat (-1)), a0_0, 0)) else (none)) else (none)) else (none)) else (none)) else (none)) = some (r1, r2, r3, r4) := H
     have A24 := Aside0.mk A240
     clear A240
     obtain ⟨ji25, hji25⟩ : ∃ j_ : Int, (wrap64 (a1 - 1)) = j_ := ⟨_, rfl⟩
     replace H : (if 0 ≤ (ji25) then (if (ji25) < (t202.length : Int) then (if 0 ≤ (rd t202 (ji25)) then (if (rd t202 (ji25)) < (l0_1.length : Int) then (if (rd t202 (ji25)) < (t206.length : Int) then (some (rd l0_1 (rd t202 (ji25)), (t206.set ((rd t202 (ji25)) : Int).toNat (-1)), a0_0, 0)) else (none)) else (none)) else (none)) else (none)) else (none)) = some (r1, r2, r3, r4) := by first | (rw [hji25] at H; exact H) | (simp only [hji25] at H ⊢; exact H)
     (try rw [hji25] at A17)
     (try rw [hji25] at A24)
     have hji25w : (IntKind.i64.wrap (a1 - 1)) = ji25 := (i64_w _).trans hji25
     by_cases c26 : 0 ≤ (ji25)
     ·rw [if_pos c26] at H
      have c26b0 : decide (0 ≤ (ji25)) = true := decide_eq_true c26
      clear c26
      by_cases c27 : (ji25) < (t202.length : Int)
      ·rw [if_pos c27] at H
       have c27b0 : decide ((ji25) < (t202.length : Int)) = true := decide_eq_true c27
       clear c27
       by_cases c28 : 0 ≤ (rd t202 (ji25))
       ·rw [if_pos c28] at H
        have c28b0 : decide (0 ≤ (rd t202 (ji25))) = true := decide_eq_true c28
        clear c28
        by_cases c29 : (rd t202 (ji25)) < (l0_1.length : Int)
        ·rw [if_pos c29] at H
         have c29b0 : decide ((rd t202 (ji25)) < (l0_1.length : Int)) = true := decide_eq_true c29
         clear c29
         by_cases c30 : (rd t202 (ji25)) < (t206.length : Int)
         ·rw [if_pos c30] at H
          have c30b0 : decide ((rd t202 (ji25)) < (t206.length : Int)) = true := decide_eq_true c30
          clear c30
          obtain ⟨y212, hy212⟩ : ∃ y_ : List Int, y_ = (t206.set ((rd t202 (ji25)) : Int).toNat (-1)) := ⟨_, rfl⟩
          replace H : (some (rd l0_1 (rd t202 (ji25)), y212, a0_0, 0)) = some (r1, r2, r3, r4) := by first | (rw [hy212]; with_reducible exact H) | (have H2_ := (Option.bind_some _ _).symm.trans H; rw [hy212]; with_reducible exact H2_) | (have H2_ := (Option.bind_some _ _).symm.trans H; with_reducible exact H2_) | with_reducible exact H | (rw [hy212]; exact H) | exact H
          have Ny212 := Aside0.mk hy212
          clear hy212
          simp only [Option.some.injEq, Prod.mk.injEq] at H
          obtain ⟨rfl, rfl, rfl, rfl⟩ := H
          have hnb32 := NB199_200.out; have hnc32 := NB200_199.out; obtain ⟨hcz33_0, hcz33_1, hfz33_0, hfz33_1⟩ := bz2_ BK199
          try go_wp2_with (first | ((with_reducible refine gc_ 68 rfl ?_); refine gl_ 21 Try.func68 #[.agg #[.int .i64 a0_0, .slice A0_1 l0_1.length c0_1], .int .i64 a0_0] ?_; (with_reducible refine (impl_Slab_chain.calls kj2 a0_0 _ _ l0_1 a0_0 t202 _ ?side1 ?side2 A17.out).mono ?_); (case side1 => repeat (first | exact (Kd.C_below HR0_1.out HB.out) | (with_reducible refine Kd.C_alloc ?_ _) | (with_reducible refine Kd.C_drewN ?_ _) | (with_reducible refine Kd.C_drew ?_))); (case side2 => exact HC0_1.out); rintro e w34 ⟨v203, rfl, ho0, hb⟩; refine ⟨_, rfl, ?_⟩; have HO204 := Aside0.mk (Kd.R_lower ho0 (below_size (bf_ HB))); replace BK199 := bb_ BK199 hb; replace BK200 := bb_ BK200 hb; replace HB := Aside0.mk (below_step (bf_ HB) hb); (try clear hb); (try clear hb2); (try clear hk); (try clear hi); (try clear ho0); obtain ⟨Ao35, co35, eo35⟩ := Kd.R_slice HO204.out; subst eo35))
          replace HO204 := Aside0.mk (Kd.R_drew HO204.out); replace BK199 := Aside0.mk (blk_drew BK199.out); replace BK200 := Aside0.mk (blk_drew BK200.out); replace HB := Aside0.mk (below_drew1 HB.out)
          have p209 : 0 ≤ ((ji25) : Int) := od_
          have q209 : (ji25) < (t202.length : Int) := od_
          obtain ⟨ad209, e209, hx209_0⟩ := Kd.at_int (Kd.R_reads' HO204.out).2.2 (ji25) p209 q209
          cases e209
          replace p209 := eq_true p209
          replace q209 := eq_true q209
          refine start_ (n := 10) (S := fun w' => cw_ w' gb199 0 (.int .i64 a0_0) ∧ cw_ w' gb199 1 (.slice A0_1 l0_1.length c0_1) ∧ w'.cell? (ad209.add ((ji25)).toNat) = some (.int .i64 (rd t202 (ji25)))) (ds := []) (bs 10 0) (by kernel_rfl) rfl rfl ⟨bt_ BK199 0, bt_ BK199 1, hx209_0⟩ (fun hHeld => ?_); refine with_tabW impl_SlabTake.tab6 impl_SlabTake.bits6 (fun HT_ HW_ => ?_)
          generalize w34.drew = w36 at HO204 BK199 BK200 HB hx209_0 hHeld ⊢
          refine ps_ 2 29 (bm 10 4) HT_ ?_
          refine ps_ 3 30 (bm 10 12) HT_ ?_
          refine ps_ 4 31 (bm 10 28) HT_ ?_
          refine ps_ 5 32 (bm 10 60) HT_ ?_
          refine tk_ 0 27 (bm 10 61) HT_ HW_ hHeld ?_
          refine tk_ 6 33 (bm 10 125) HT_ HW_ hHeld ?_
          refine join_ (σ := Value × Nat) 2 (bs 10 8) (fun s_ => [(28, .agg #[.int .i64 t205, s_.1]), (8, .pointer (some ⟨s_.2, 0, none⟩))]) (fun s_ w' => (w'.cell? ⟨gb199, 0, none⟩ = some (.int .i64 a0_0) ∧ w'.cell? ⟨gb199, 1, none⟩ = some (.slice A0_1 l0_1.length c0_1) ∧ w'.cell? (ad209.add ((ji25)).toNat) = some (.int .i64 (rd t202 (ji25)))) ∧ (Kd.R (Kd.int .i64) 3 w' w.heap.size (fun k_ => some k_ ≠ (s_.1 : Value).ownBlock) (.slice (some ad209) t202.length co35) t202) ∧ (Kd.R (Kd.int .i64) 3 w' w.heap.size (fun k_ => some k_ ≠ (.slice (some ad209) t202.length co35 : Value).ownBlock) s_.1 t206) ∧ (w'.heap[gb199]? = some (.cells #[.int .i64 a0_0, .slice A0_1 l0_1.length c0_1] 24 (0, 0))) ∧ (w'.heap[gb200]? = some (.cells #[.int .i64 0, .slice none 0 0] 24 (0, 0))) ∧ (w'.heap[s_.2]? = some (.cells #[.int .i64 0, .slice none 0 0] 24 (0, 0))) ∧ (w.heap.size ≤ s_.2) ∧ (w.heap.size ≤ s_.2) ∧ (gb199 ≠ s_.2) ∧ (s_.2 ≠ gb199) ∧ (gb200 ≠ s_.2) ∧ (s_.2 ≠ gb200) ∧ (Below w.heap.size w w')) ?_ ?_
          rotate_left
          ·intro hCont
           refine two_ (i := 1) (j := 7) (Ni := some 28) (Nj := some 8) (bs 10 7) (bm 10 253) rfl rfl rfl rfl (two_of HT_.out (by kernel_rfl)) (by decide) (by decide) (fun K hK => ?_) (fun K hK => ?_)
           ·skip
            refine gs_ Try.func73 #[.agg #[.int .i64 a0_0, .slice A0_1 l0_1.length c0_1]] ?_
            with_reducible refine (impl_copySlab.calls a0_0 _ _ l0_1 t205 t206 _ ?side1 ?side2 A24.out).mono ?_
            (case side1 => repeat (first | exact (Kd.C_below HR0_1.out HB.out) | (with_reducible refine Kd.C_alloc ?_ _) | (with_reducible refine Kd.C_drewN ?_ _) | (with_reducible refine Kd.C_drew ?_)))
            (case side2 => exact HC0_1.out)
            rintro e w37 ⟨v207, rfl, ho0, hb⟩
            have HS2_ := hc_ hb hHeld.2.2
            refine ⟨_, rfl, ?_⟩
            have HO208 := Aside0.mk (Kd.R_lower (Kd.R_new' ho0 (Kd.R_lt (kr_ HO204))) (below_size (bf_ HB))); replace HO204 := Aside0.mk (Kd.R_elder' (kr_ HO204) (Kd.R_base ho0) hb); replace BK199 := bb_ BK199 hb; replace BK200 := bb_ BK200 hb; replace HB := Aside0.mk (below_step (bf_ HB) hb); (try clear hb); (try clear hb2); (try clear hk); (try clear hi); (try clear ho0)
            refine hK.out _ _ ⟨bt_ BK199 0, bt_ BK199 1, HS2_⟩ (fun hHeld => ?_)
            clear hK K
            refine norm_ (a' := ?_) ?_ ?_
            rotate_left
            ·show Act.put _ (some 28) _ = _
             simp only [Act.put, ls0_, ls1_, ls2_, i64_w, i32_w]
             rfl
            refine on_ 7 (some 8) (bs 10 8) HT_ (fun K hK => ?_)
            refine box_step ?hg (N := 8) ?hd (cs := #[.int .i64 0, .slice none 0 0]) (t := 24) ?hr ?_; (case hd => rfl); (case hg => rfl); (case hr => first | (go_simp; done) | (go_simp; rfl))
            intro gb210 hg w38 hbox hb
            have HS2_ := hc_ hb hHeld.2.2
            replace HO204 := Aside0.mk (Kd.R_below (kr_ HO204) hb); replace HO208 := Aside0.mk (Kd.R_below (kr_ HO208) hb); have BK210 := Aside0.mk (hbox); have GW210 := gw_ HB hg; have GE210 := gw_ HB hg; replace HB := Aside0.mk (below_step (bf_ HB) hb); have NB199_210 := nl_ BK199 hg; have NB210_199 := ng_ BK199 hg; replace BK199 := bb_ BK199 hb; have NB200_210 := nl_ BK200 hg; have NB210_200 := ng_ BK200 hg; replace BK200 := bb_ BK200 hb; clear hb hbox hg
            refine hK.out _ _ ⟨bt_ BK199 0, bt_ BK199 1, HS2_⟩ (fun hHeld => ?_)
            clear hK K
            refine norm_ (a' := ?_) ?_ ?_
            rotate_left
            ·show Act.put _ (some 8) _ = _
             simp only [Act.put, ls0_, ls1_, ls2_, i64_w, i32_w]
             rfl
            exact norm_ (by simp only [putAll, Act.put, ls0_, ls1_, ls2_]) (hCont (v207, gb210) _ ⟨hHeld, (by (with_reducible repeat (first | apply Kd.R_alloc | apply Kd.R_drewN | apply Kd.R_drew)); exact Kd.R_mono HO204.out (fun _ hk => by first | exact hk.2 | grind)), (by (with_reducible repeat (first | apply Kd.R_alloc | apply Kd.R_drewN | apply Kd.R_drew)); exact Kd.R_mono HO208.out (fun _ hk => by first | exact hk.2 | grind)), (bk_ BK199), (bk_ BK200), (bk_ BK210), GW210.out, GE210.out, NB199_210.out, NB210_199.out, NB200_210.out, NB210_200.out, (bf_ HB)⟩)
           ·skip
            refine box_step ?hg (N := 8) ?hd (cs := #[.int .i64 0, .slice none 0 0]) (t := 24) ?hr ?_; (case hd => rfl); (case hg => rfl); (case hr => first | (go_simp; done) | (go_simp; rfl))
            intro gb210 hg w37 hbox hb
            have HS2_ := hc_ hb hHeld.2.2
            replace HO204 := Aside0.mk (Kd.R_below (kr_ HO204) hb); have BK210 := Aside0.mk (hbox); have GW210 := gw_ HB hg; have GE210 := gw_ HB hg; replace HB := Aside0.mk (below_step (bf_ HB) hb); have NB199_210 := nl_ BK199 hg; have NB210_199 := ng_ BK199 hg; replace BK199 := bb_ BK199 hb; have NB200_210 := nl_ BK200 hg; have NB210_200 := ng_ BK200 hg; replace BK200 := bb_ BK200 hb; clear hb hbox hg
            refine hK.out _ _ ⟨bt_ BK199 0, bt_ BK199 1, HS2_⟩ (fun hHeld => ?_)
            clear hK K
            refine norm_ (a' := ?_) ?_ ?_
            rotate_left
            ·show Act.put _ (some 8) _ = _
             simp only [Act.put, ls0_, ls1_, ls2_, i64_w, i32_w]
             rfl
            refine on_ 1 (some 28) (bs 10 8) HT_ (fun K hK => ?_)
            refine gs_ Try.func73 #[.agg #[.int .i64 a0_0, .slice A0_1 l0_1.length c0_1]] ?_
            with_reducible refine (impl_copySlab.calls a0_0 _ _ l0_1 t205 t206 _ ?side1 ?side2 A24.out).mono ?_
            (case side1 => repeat (first | exact (Kd.C_below HR0_1.out HB.out) | (with_reducible refine Kd.C_alloc ?_ _) | (with_reducible refine Kd.C_drewN ?_ _) | (with_reducible refine Kd.C_drew ?_)))
            (case side2 => exact HC0_1.out)
            rintro e w38 ⟨v207, rfl, ho0, hb⟩
            have HS2_ := hc_ hb hHeld.2.2
            refine ⟨_, rfl, ?_⟩
            have HO208 := Aside0.mk (Kd.R_lower (Kd.R_new' ho0 (Kd.R_lt (kr_ HO204))) (below_size (bf_ HB))); replace HO204 := Aside0.mk (Kd.R_elder' (kr_ HO204) (Kd.R_base ho0) hb); replace BK199 := bb_ BK199 hb; replace BK200 := bb_ BK200 hb; replace BK210 := bb_ BK210 hb; replace HB := Aside0.mk (below_step (bf_ HB) hb); (try clear hb); (try clear hb2); (try clear hk); (try clear hi); (try clear ho0)
            refine hK.out _ _ ⟨bt_ BK199 0, bt_ BK199 1, HS2_⟩ (fun hHeld => ?_)
            clear hK K
            refine norm_ (a' := ?_) ?_ ?_
            rotate_left
            ·show Act.put _ (some 28) _ = _
             simp only [Act.put, ls0_, ls1_, ls2_, i64_w, i32_w]
             rfl
            exact norm_ (by simp only [putAll, Act.put, ls0_, ls1_, ls2_]) (hCont (v207, gb210) _ ⟨hHeld, (by (with_reducible repeat (first | apply Kd.R_alloc | apply Kd.R_drewN | apply Kd.R_drew)); exact Kd.R_mono HO204.out (fun _ hk => by first | exact hk.2 | grind)), (by (with_reducible repeat (first | apply Kd.R_alloc | apply Kd.R_drewN | apply Kd.R_drew)); exact Kd.R_mono HO208.out (fun _ hk => by first | exact hk.2 | grind)), (bk_ BK199), (bk_ BK200), (bk_ BK210), GW210.out, GE210.out, NB199_210.out, NB210_199.out, NB200_210.out, NB210_200.out, (bf_ HB)⟩)
          rintro ⟨v207, gb210⟩ w39 ⟨hS_, h0_, h1_, h2_, h3_, h4_, h5_, h6_, h7_, h8_, h9_, h10_, h11_⟩
          have n0_ : Aside0 (Kd.R (Kd.int .i64) 3 w39 w.heap.size (fun k_ => some k_ ≠ (v207 : Value).ownBlock) (.slice (some ad209) t202.length co35) t202) := ⟨h0_⟩
          have n1_ : Aside0 (Kd.R (Kd.int .i64) 3 w39 w.heap.size (fun k_ => some k_ ≠ (.slice (some ad209) t202.length co35 : Value).ownBlock) v207 t206) := ⟨h1_⟩
          have n2_ : Aside0 (w39.heap[gb199]? = some (.cells #[.int .i64 a0_0, .slice A0_1 l0_1.length c0_1] 24 (0, 0))) := ⟨h2_⟩
          have n3_ : Aside0 (w39.heap[gb200]? = some (.cells #[.int .i64 0, .slice none 0 0] 24 (0, 0))) := ⟨h3_⟩
          have n4_ : Aside0 (w39.heap[gb210]? = some (.cells #[.int .i64 0, .slice none 0 0] 24 (0, 0))) := ⟨h4_⟩
          have n5_ : Aside0 (w.heap.size ≤ gb210) := ⟨h5_⟩
          have n6_ : Aside0 (w.heap.size ≤ gb210) := ⟨h6_⟩
          have n7_ : Aside0 (gb199 ≠ gb210) := ⟨h7_⟩
          have n8_ : Aside0 (gb210 ≠ gb199) := ⟨h8_⟩
          have n9_ : Aside0 (gb200 ≠ gb210) := ⟨h9_⟩
          have n10_ : Aside0 (gb210 ≠ gb200) := ⟨h10_⟩
          have n11_ : Aside0 (Below w.heap.size w w39) := ⟨h11_⟩
          clear HO204 BK199 BK200 HB h0_ h1_ h2_ h3_ h4_ h5_ h6_ h7_ h8_ h9_ h10_ h11_; have HO204 := n0_; have HO208 := n1_; have BK199 := n2_; have BK200 := n3_; have BK210 := n4_; have GW210 := n5_; have GE210 := n6_; have NB199_210 := n7_; have NB210_199 := n8_; have NB200_210 := n9_; have NB210_200 := n10_; have HB := n11_; clear n0_ n1_ n2_ n3_ n4_ n5_ n6_ n7_ n8_ n9_ n10_ n11_
          have hHeld : w39.cell? ⟨gb199, 0, none⟩ = some (.int .i64 a0_0) ∧ w39.cell? ⟨gb199, 1, none⟩ = some (.slice A0_1 l0_1.length c0_1) ∧ w39.cell? (ad209.add ((ji25)).toNat) = some (.int .i64 (rd t202 (ji25))) := hS_
          obtain ⟨Ao41, co41, eo41⟩ := Kd.R_slice HO208.out
          (first | subst eo41 | (injection eo41 with f1_ f2_ f3_; have f4_ := f1_.symm; have f5_ := f3_.symm; clear f1_ f2_ f3_; subst f4_; subst f5_))
          refine norm_ (a' := ?_) ?_ ?_
          rotate_left
          ·simp only [putAll, Act.put, ls0_, ls1_, ls2_]
           rfl
          refine on_ 8 none (bs 10 9) HT_ (fun K hK => ?_)
          have hs40 := bc_ BK210 0 (.int .i64 0) rfl; have hfs40 := blk_frozen BK210.out 0; have hns40_0 := NB199_210.out; have hns40_1 := NB200_210.out; have hms40_0 := NB210_199.out; have hms40_1 := NB210_200.out; have hs42 := bc_ BK210 1 (.slice none 0 0) rfl; have hfs42 := blk_frozen BK210.out 1; have hns42_0 := NB199_210.out; have hns42_1 := NB200_210.out; have hms42_0 := NB210_199.out; have hms42_1 := NB210_200.out
          refine skip_ (w1 := ?_) (by rfl) rfl ?_ ?_
          rotate_left
          ·go_simp
           rfl
          refine hK.out _ _ ⟨(cf2_ NB199_210.out hHeld.1), (cf2_ NB199_210.out hHeld.2.1), (cf2_ (ab_ (Kd.own_blk (Kd.R_ne HO204.out BK210.out (by decide)))) hHeld.2.2)⟩ (fun hHeld => ?_)
          clear hK K
          refine ps_ 9 9 (bs 10 10) HT_ ?_
          refine done_ (done_of HT_.out (by kernel_rfl)) ?_
          try go_wp2
          generalize hW_ : ((w39.setCell ⟨gb210, 0, none⟩ (.int .i64 t205)).setCell ⟨gb210, 1, none⟩ (.slice Ao41 t206.length co41)) = w43
          replace HO204 : Aside0 (Kd.R (Kd.int .i64) 3 w43 w.heap.size (fun k_ => some k_ ≠ (.slice Ao41 t206.length co41 : Value).ownBlock) (.slice (some ad209) t202.length co35) t202) := ⟨by cases hW_; (with_reducible repeat (first | apply Kd.R_alloc | apply Kd.R_drewN | apply Kd.R_drew)); exact Kd.R_mono (Kd.R_far (p := ⟨gb210, 1, none⟩) (Kd.R_far (p := ⟨gb210, 0, none⟩) (Kd.R_types HO204.out BK210.out (by decide)) (fun _ hk => by first | exact hk.2 | grind) (.int .i64 t205)) (fun _ hk => by first | exact hk.2 | grind) (.slice Ao41 t206.length co41)) (fun _ hk => by first | exact hk.1 | grind)⟩
          replace HO208 : Aside0 (Kd.R (Kd.int .i64) 3 w43 w.heap.size (fun k_ => some k_ ≠ (.slice (some ad209) t202.length co35 : Value).ownBlock) (.slice Ao41 t206.length co41) t206) := ⟨by cases hW_; (with_reducible repeat (first | apply Kd.R_alloc | apply Kd.R_drewN | apply Kd.R_drew)); exact Kd.R_mono (Kd.R_far (p := ⟨gb210, 1, none⟩) (Kd.R_far (p := ⟨gb210, 0, none⟩) (Kd.R_types HO208.out BK210.out (by decide)) (fun _ hk => by first | exact hk.2 | grind) (.int .i64 t205)) (fun _ hk => by first | exact hk.2 | grind) (.slice Ao41 t206.length co41)) (fun _ hk => by first | exact hk.1 | grind)⟩
          replace BK199 := fc2_ hW_ BK199 NB199_210
          replace BK200 := fc2_ hW_ BK200 NB200_210
          replace BK210 : Aside0 (w43.heap[gb210]? = some (.cells #[.int .i64 t205, .slice Ao41 t206.length co41] 24 (0, 0))) := pc2_ hW_ BK210
          replace HB : Aside0 (Below w.heap.size w w43) := ⟨by cases hW_; exact bf_ HB⟩
          clear hW_; replace HO204 := Aside0.mk (Kd.R_drew HO204.out); replace HO208 := Aside0.mk (Kd.R_drew HO208.out); replace BK199 := Aside0.mk (blk_drew BK199.out); replace BK200 := Aside0.mk (blk_drew BK200.out); replace BK210 := Aside0.mk (blk_drew BK210.out); replace HB := Aside0.mk (below_drew1 HB.out)
          have p211 : 0 ≤ ((rd t202 (ji25)) : Int) := od_
          have q211 : (rd t202 (ji25)) < (l0_1.length : Int) := od_
          obtain ⟨ad211, e211, hx211_0⟩ := Kd.at_int HR0_1.out (rd t202 (ji25)) p211 q211
          have hw211_0 := hx211_0
          cases e211
          replace hx211_0 := hb_ HB hx211_0
          replace p211 := eq_true p211
          replace q211 := eq_true q211
          have p31 : 0 ≤ ((rd t202 (ji25)) : Int) := od_
          have q31 : ((rd t202 (ji25)) : Int) < ((t206.length : Int) : Int) := od_
          obtain ⟨go31, co31, eo31, gb31, gl31, cl31, HG31⟩ := Kd.R_form HO208.out (by omega)
          (first | cases eo31 | (injection eo31 with ea_ en_ ec_; (first | subst ea_ | (injection ea_ with ea_; subst ea_)); subst ec_; clear en_))
          have GB31 := Aside0.mk gb31
          have GG31 := Aside0.mk HG31
          clear gb31 gl31 HG31
          obtain ⟨hx31_0, hf31_0⟩ := Kd.R_celln 0 (Kd.R_far (p := ⟨gb210, 0, none⟩) (Kd.R_types HO208.out BK210.out (by decide)) (fun _ hk => by first | exact hk.2 | grind) (.int .i64 (rd l0_1 (rd t202 (ji25))))) ((rd t202 (ji25)) : Int) p31 q31
          replace p31 := eq_true p31
          replace q31 := eq_true q31
          have HP46 := Kd.R_putn (Kd.R_far (p := ⟨gb210, 0, none⟩) (Kd.R_types HO208.out BK210.out (by decide)) (fun _ hk => by first | exact hk.2 | grind) (.int .i64 (rd l0_1 (rd t202 (ji25))))) ((rd t202 (ji25)) : Int) (-1)
          rw [← Ny212.out] at HP46
          have HQ46 := Aside0.mk HP46
          clear HP46
          refine start_ (n := 12) (S := fun w' => cw_ w' gb210 0 (.int .i64 t205) ∧ cw_ w' gb210 1 (.slice (some ⟨go31, 0, none⟩) t206.length co41) ∧ cw_ w' gb199 0 (.int .i64 a0_0) ∧ cw_ w' gb199 1 (.slice (some ad211) l0_1.length c0_1) ∧ w'.cell? (ad211.add ((rd t202 (ji25))).toNat) = some (.int .i64 (rd l0_1 (rd t202 (ji25))))) (ds := [9, 11]) (bs 12 0) (by kernel_rfl) rfl rfl ⟨bt_ BK210 0, bt_ BK210 1, bt_ BK199 0, bt_ BK199 1, (hd_ HB hw211_0)⟩ (fun hHeld => ?_); refine with_tabW impl_SlabTake.tab7 impl_SlabTake.bits7 (fun HT_ HW_ => ?_)
          generalize w43.drew = w44 at HO204 HO208 BK199 BK200 BK210 HB GG31 HQ46 hf31_0 hx211_0 hx31_0 hHeld ⊢
          refine ps_ 0 34 (bs 12 1) HT_ ?_
          refine ps_ 2 36 (bm 12 5) HT_ ?_
          refine ps_ 3 37 (bm 12 13) HT_ ?_
          refine ps_ 5 39 (bm 12 45) HT_ ?_
          refine tk_ 1 35 (bm 12 47) HT_ HW_ hHeld ?_
          refine tk_ 4 38 (bs 12 6) HT_ HW_ hHeld ?_
          refine ps_ 6 40 (bs 12 7) HT_ ?_
          refine tk_ 7 41 (bs 12 8) HT_ HW_ hHeld ?_
          refine ps_ 8 42 (bs 12 9) HT_ ?_
          refine last_ (i := 9) (N := none) (bs 12 10) rfl rfl (one_of HT_.out (by kernel_rfl)) (by decide) (fun K hK => ?_)
          have hs45 := bc_ BK210 0 (.int .i64 t205) rfl; have hfs45 := blk_frozen BK210.out 0; have hns45_0 := NB199_210.out; have hns45_1 := NB200_210.out; have hms45_0 := NB210_199.out; have hms45_1 := NB210_200.out
          refine skip_ (w1 := ?_) (by rfl) rfl ?_ ?_
          rotate_left
          ·go_simp
           rfl
          refine hK.out _ _ ?_
          clear hK K
          refine ps_ 10 43 (bs 12 11) HT_ ?_
          refine last_ (i := 11) (N := none) (bs 12 12) rfl rfl (one_of HT_.out (by kernel_rfl)) (by decide) (fun K hK => ?_)
          refine skip_ (w1 := ?_) (by rfl) rfl ?_ ?_
          rotate_left
          ·go_simp
           rfl
          refine hK.out _ _ ?_
          clear hK K
          refine done_ (done_of HT_.out (by kernel_rfl)) ?_
          generalize hW_ : ((w44.setCell ⟨gb210, 0, none⟩ (.int .i64 (rd l0_1 (rd t202 (ji25))))).setCell ⟨go31, ((rd t202 (ji25)) : Int).toNat, none⟩ (.int .i64 (-1))) = w47
          replace HO204 : Aside0 (Kd.R (Kd.int .i64) 3 w47 w.heap.size (fun k_ => some k_ ≠ (.slice (some ⟨go31, 0, none⟩) t206.length co41 : Value).ownBlock) (.slice (some ad209) t202.length co35) t202) := ⟨by cases hW_; (with_reducible repeat (first | apply Kd.R_alloc | apply Kd.R_drewN | apply Kd.R_drew)); exact Kd.R_mono (Kd.R_far (p := ⟨go31, ((rd t202 (ji25)) : Int).toNat, none⟩) (Kd.R_far (p := ⟨gb210, 0, none⟩) (Kd.R_mono (Kd.R_types HO204.out BK210.out (by decide)) (fun k_ hk => by first | exact (⟨hk, fun e_ => hk.1 (by rw [e_]; rfl)⟩ : _ ∧ k_ ≠ go31) | grind)) (fun _ hk => by first | exact hk.1.2 | grind) (.int .i64 (rd l0_1 (rd t202 (ji25))))) (fun _ hk => by first | exact hk.2 | grind) (.int .i64 (-1))) (fun _ hk => by first | exact hk.1.1 | grind)⟩
          replace BK199 : Aside0 (w47.heap[gb199]? = some (.cells #[.int .i64 a0_0, .slice (some ad211) l0_1.length c0_1] 24 (0, 0))) := ⟨by cases hW_; (with_reducible repeat (first | refine blk_drewN ?_ _ | refine blk_drew ?_ | refine blk_alloc ?_ _)); refine blk_far ?_ (by have h_ := Kd.R_ne HO208.out BK199.out (by decide); intro e_; exact h_ (by rw [e_]; rfl)) _; (with_reducible repeat (first | refine blk_drewN ?_ _ | refine blk_drew ?_ | refine blk_alloc ?_ _)); refine blk_far ?_ NB199_210.out _; exact bk_ BK199⟩
          replace BK200 : Aside0 (w47.heap[gb200]? = some (.cells #[.int .i64 0, .slice none 0 0] 24 (0, 0))) := ⟨by cases hW_; (with_reducible repeat (first | refine blk_drewN ?_ _ | refine blk_drew ?_ | refine blk_alloc ?_ _)); refine blk_far ?_ (by have h_ := Kd.R_ne HO208.out BK200.out (by decide); intro e_; exact h_ (by rw [e_]; rfl)) _; (with_reducible repeat (first | refine blk_drewN ?_ _ | refine blk_drew ?_ | refine blk_alloc ?_ _)); refine blk_far ?_ NB200_210.out _; exact bk_ BK200⟩
          replace BK210 : Aside0 (w47.heap[gb210]? = some (.cells #[.int .i64 (rd l0_1 (rd t202 (ji25))), .slice (some ⟨go31, 0, none⟩) t206.length co41] 24 (0, 0))) := ⟨by cases hW_; (with_reducible repeat (first | refine blk_drewN ?_ _ | refine blk_drew ?_ | refine blk_alloc ?_ _)); refine blk_far ?_ (by have h_ := Kd.R_ne HO208.out BK210.out (by decide); intro e_; exact h_ (by rw [e_]; rfl)) _; (with_reducible repeat (first | refine blk_drewN ?_ _ | refine blk_drew ?_ | refine blk_alloc ?_ _)); refine blk_put (cs := #[.int .i64 t205, .slice (some ⟨go31, 0, none⟩) t206.length co41]) ?_ 0 _ rfl; exact bk_ BK210⟩
          replace HO208 : Aside0 (Kd.R (Kd.int .i64) 3 w47 w.heap.size (fun k_ => some k_ ≠ (.slice (some ad209) t202.length co35 : Value).ownBlock) (.slice (some ⟨go31, 0, none⟩) t206.length co41) y212) := ⟨by cases hW_; (with_reducible repeat (first | apply Kd.R_alloc | apply Kd.R_drewN | apply Kd.R_drew)); exact Kd.R_mono HQ46.out (fun _ hk => by first | exact hk.1 | grind)⟩
          replace HB : Aside0 (Below w.heap.size w w47) := ⟨by cases hW_; repeat (first | (with_reducible first | exact HB.out | apply below_alloc | apply pw_below_drewN | apply below_drew1 | refine below_set ?_ GB31.out | refine below_set ?_ GE199.out | refine below_set ?_ GE200.out | refine below_set ?_ GE210.out) | exact HB.out)⟩
          clear hW_
          try go_wp2
          replace HO204 := Aside0.mk (Kd.R_drew HO204.out); replace HO208 := Aside0.mk (Kd.R_drew HO208.out); replace BK199 := Aside0.mk (blk_drew BK199.out); replace BK200 := Aside0.mk (blk_drew BK200.out); replace BK210 := Aside0.mk (blk_drew BK210.out); replace HB := Aside0.mk (below_drew1 HB.out)
          refine start_ (n := 6) (S := fun w' => cw_ w' gb210 0 (.int .i64 (rd l0_1 (rd t202 (ji25)))) ∧ cw_ w' gb210 1 (.slice (some ⟨go31, 0, none⟩) t206.length co41) ∧ cw_ w' gb199 0 (.int .i64 a0_0) ∧ cw_ w' gb199 1 (.slice (some ad211) l0_1.length c0_1)) (ds := []) (bs 6 0) (by kernel_rfl) rfl rfl ⟨bt_ BK210 0, bt_ BK210 1, bt_ BK199 0, bt_ BK199 1⟩ (fun hHeld => ?_)
          generalize w47.drew = w48 at HO204 HO208 BK199 BK200 BK210 HB hHeld ⊢
          refine ps0_ 1 45 #[oF,oT,oF,oF,oF,oF] ?_
          refine tk0_ 0 44 (bs 6 2) hHeld ?_
          refine tk0_ 2 46 (bs 6 3) hHeld ?_
          refine on0_ 3 none (bs 6 4) (fun K hK => ?_)
          have hs49 := bc_ BK200 0 (.int .i64 0) rfl; have hfs49 := blk_frozen BK200.out 0; have hns49_0 := NB199_200.out; have hns49_2 := NB210_200.out; have hms49_0 := NB200_199.out; have hms49_2 := NB200_210.out; have hs50 := bc_ BK200 1 (.slice none 0 0) rfl; have hfs50 := blk_frozen BK200.out 1; have hns50_0 := NB199_200.out; have hns50_2 := NB210_200.out; have hms50_0 := NB200_199.out; have hms50_2 := NB200_210.out
          refine skip_ (w1 := ?_) (by rfl) rfl ?_ ?_
          rotate_left
          ·go_simp
           rfl
          refine hK.out _ _ ⟨(cf2_ NB210_200.out hHeld.1), (cf2_ NB210_200.out hHeld.2.1), (cf2_ NB199_200.out hHeld.2.2.1), (cf2_ NB199_200.out hHeld.2.2.2)⟩ (fun hHeld => ?_)
          clear hK K
          refine ps0_ 4 5 (bs 6 5) ?_
          refine ps0_ 5 6 (bs 6 6) ?_
          refine done_ (by kernel_rfl) ?_
          try go_wp2
          refine bodyPost_ret (results_ctt rfl _ _ gb200 24 #[.int .i64 (rd l0_1 (rd t202 (ji25))), .slice (some ⟨go31, 0, none⟩) t206.length co41] (0, 0) _ rfl (by (with_reducible repeat (first | refine blk_drewN ?_ _ | refine blk_drew ?_ | refine blk_alloc ?_ _)); refine blk_put (cs := #[.int .i64 (rd l0_1 (rd t202 (ji25))), .slice none 0 0]) ?_ 1 _ rfl; (with_reducible repeat (first | refine blk_drewN ?_ _ | refine blk_drew ?_ | refine blk_alloc ?_ _)); refine blk_put (cs := #[.int .i64 0, .slice none 0 0]) ?_ 0 _ rfl; exact bk_ BK200) Try.underlying24 rfl (by kernel_rfl)) rfl ?_
          exact ⟨_, by first | rfl | (simp [errW_none, errW_some] <;> rfl) | (simp only [← hji25]; first | rfl | (simp [errW_none, errW_some] <;> rfl)) | (simp [*, errW_none, errW_some] <;> rfl), by (with_reducible repeat (first | apply Kd.R_alloc | apply Kd.R_drewN | apply Kd.R_drew)); exact Kd.R_mono (Kd.R_far (p := ⟨gb200, 1, none⟩) (Kd.R_far (p := ⟨gb200, 0, none⟩) (Kd.R_types HO208.out BK200.out (by decide)) (fun _ hk => by first | exact hk.2 | grind) (.int .i64 (rd l0_1 (rd t202 (ji25))))) (fun _ hk => by first | exact hk.2 | grind) (.slice (some ⟨go31, 0, none⟩) t206.length co41)) (fun _ hk => by first | exact trivial | grind), bf_ HB⟩
         ·rw [if_neg c30] at H
          exact absurd H (by simp)
        ·rw [if_neg c29] at H
         exact absurd H (by simp)
       ·rw [if_neg c28] at H
        exact absurd H (by simp)
      ·rw [if_neg c27] at H
       exact absurd H (by simp)
     ·rw [if_neg c26] at H
      exact absurd H (by simp)

/-! ### slices_Clone_byte_byte: function 74 -/
def slices_Clone_byte_byte.f (l0 : List Int) : Option (List Int) := (some (([] : List Int) : List Int)).bind fun y213 => (if y213.length + l0.length < 140737488355328 then (some (y213 ++ l0)) else (none))
set_option maxHeartbeats 8000000 in
set_option maxRecDepth 100000 in
theorem slices_Clone_byte_byte.calls_some (A0 : Addr) (c0 : Nat) (l0 : List Int) (r : List Int) (w : World) (hr0 : Kd.C (Kd.int .u8) w (some A0) l0.length l0) (hc0 : l0.length ≤ c0) (h : slices_Clone_byte_byte.f l0 = some r) :
  Calls Try.prog 74 #[.slice (some A0) l0.length c0] w fun e w' => ∃ v0_ : Value, e = .returned (v0_) ∧ Kd.R (Kd.int .u8) 5 w' w.heap.size (fun _ => True) v0_ r ∧ Below w.heap.size w w' := by
 have hnil0_ := fun (W : World) (n c : Nat) => Lib.run_eql_slice_nil (P := Try.prog) W 34 5 (some A0) n c 0 0 Try.underlying34
 have HR0 := Aside0.mk hr0
 have HC0 := Aside0.mk hc0
 clear hr0 hc0; have HB := Aside0.mk (Below.refl w.heap.size w)
 have H : ((some (([] : List Int) : List Int)).bind fun y213 => (if y213.length + l0.length < 140737488355328 then (some (y213 ++ l0)) else (none))) = some r := h
 clear h
 obtain ⟨y213, hy213⟩ : ∃ y_ : List Int, y_ = (([] : List Int)) := ⟨_, rfl⟩
 replace H : (if y213.length + l0.length < 140737488355328 then (some (y213 ++ l0)) else (none)) = some r := by first | (rw [hy213]; with_reducible exact H) | (have H2_ := (Option.bind_some _ _).symm.trans H; rw [hy213]; with_reducible exact H2_) | (have H2_ := (Option.bind_some _ _).symm.trans H; with_reducible exact H2_) | with_reducible exact H | (rw [hy213]; exact H) | exact H
 have Ny213 := Aside0.mk hy213
 clear hy213
 by_cases c2 : y213.length + l0.length < 140737488355328
 ·rw [if_pos c2] at H
  have LMc2 := Aside0.mk c2
  clear c2
  obtain ⟨y216, hy216⟩ : ∃ y_ : List Int, y_ = (y213 ++ l0) := ⟨_, rfl⟩
  replace H : (some y216) = some r := by first | (rw [hy216]; with_reducible exact H) | (have H2_ := (Option.bind_some _ _).symm.trans H; rw [hy216]; with_reducible exact H2_) | (have H2_ := (Option.bind_some _ _).symm.trans H; with_reducible exact H2_) | with_reducible exact H | (rw [hy216]; exact H) | exact H
  have Ny216 := Aside0.mk hy216
  clear hy216
  obtain rfl := Option.some.inj H
  go_enter Try.func74, Try.ntmps74
  go_wp2_with (first | ((with_reducible refine gd_ 5 rfl ?_); refine Kd.R_lit (Kd.int .u8) _ 5 ?hg (N := 5) ?hd (xs := ([] : List Int)) (inner := []) (ok := fun _ => True) (okp := fun _ => True) ?hr ?hp (fun _ hk => by first | exact hk | grind) trivial (Below.refl _ _) (Nat.le_refl _) (by simp) ?_; (case hd => rfl); (case hg => rfl); (case hr => first | (go_simp; done) | (go_simp; rfl)); (case hp => exact (Reps.none _ _)); intro v214 w3 ho4 hb hg_ hnew_; clear hg_ hnew_; (first | rw [← Ny213.out] at ho4 | (simp only [Int.reduceToNat] at ho4; rw [← Ny213.out] at ho4)); have HO215 := Aside0.mk (Kd.R_lower ho4 (below_size (be_ HB))); replace HB := Aside0.mk (below_step (be_ HB) hb); clear hb ho4) | ((with_reducible refine gate_builtin (b := .append) (xs := #[.tmp 5, .tmp 6]) rfl ?_); at_builtin; refine Kd.R_append_rows (Kd.int .u8) (w0 := w) w.heap.size rfl (.tmp 5) (.tmp 6) 34 5 (.int .u8 0) 1 rfl Try.underlying34 info5 rfl (by decide) (by omega) v214 y213 l0 _ _ _ (fun _ => True) (fun _ => False) rfl rfl ?aO ?aR (fun _ _ h => h) (fun _ h => h.elim) ?aF ?aB ?aS ?aL ?_; (case aR => repeat (first | exact (Kd.C_below HR0.out HB.out) | (with_reducible refine Kd.C_alloc ?_ _) | (with_reducible refine Kd.C_drewN ?_ _) | (with_reducible refine Kd.C_drew ?_))); (case aB => exact (be_ HB)); (case aF => exact (fun _ _ => trivial)); (case aO => exact (kr_ HO215)); (case aS => exact (below_size (be_ HB))); (case aL => have := LMc2.out; omega); intro v217 w5 ho hb hg hat; rw [← Ny216.out] at ho; replace HB := Aside0.mk (hb); have HO218 := Aside0.mk (ho); clear HO215 ho hb hg hat))
  go_ret
  exact ⟨_, by first | rfl | (simp [errW_none, errW_some] <;> rfl) | (simp [*, errW_none, errW_some] <;> rfl), by (with_reducible repeat (first | apply Kd.R_alloc | apply Kd.R_drewN | apply Kd.R_drew)); exact HO218.out, be_ HB⟩
 ·rw [if_neg c2] at H
  exact absurd H (by simp)
set_option maxHeartbeats 8000000 in
set_option maxRecDepth 100000 in
theorem slices_Clone_byte_byte.calls (A0 : Option Addr) (c0 : Nat) (l0 : List Int) (r : List Int) (w : World) (hr0 : Kd.C (Kd.int .u8) w A0 l0.length l0) (hc0 : l0.length ≤ c0) (h : slices_Clone_byte_byte.f l0 = some r) :
  Calls Try.prog 74 #[.slice A0 l0.length c0] w fun e w' => ∃ v0_ : Value, e = .returned (v0_) ∧ Kd.R (Kd.int .u8) 5 w' w.heap.size (fun _ => True) v0_ r ∧ Below w.heap.size w w' := by
  cases A0 with
  | some a_ => exact slices_Clone_byte_byte.calls_some a_ c0 l0 r w hr0 hc0 h
  | none =>
    obtain rfl : l0 = [] := by
      rcases l0 with _ | ⟨x_, t_⟩
      · rfl
      · obtain ⟨ad_, h0_, _⟩ := hr0.2.2 (by simp)
        cases h0_
    obtain rfl : r = [] := by simpa [slices_Clone_byte_byte.f] using h.symm
    have hnil0_ := fun (W : World) (n c : Nat) => Lib.run_eql_slice_nil (P := Try.prog) W 34 5 none n c 0 0 Try.underlying34
    clear hr0 hc0 h
    go_enter Try.func74, Try.ntmps74
    go_wp2
    go_ret
    exact ⟨_, rfl, Kd.R_nil _ _ _ _ _, Below.refl _ _⟩

end Go.Proofs.Ytaglpjlapfocfaa.PFnExactStorePut
