-- printed by a program of this session (wip/printx) out of the translation; Lean checks it
import Derived.Test.YtlafobfjbkhioaaXSq
import Derived.Test.YtlafobfjbkhioaaPFnStoreBookx0
import Derived.Test.YtlafobfjbkhioaaPFnStoreBookx1
import Derived.Test.YtlafobfjbkhioaaPFnStoreBookx2
import Derived.Test.YtlafobfjbkhioaaPFnStoreBookx3
namespace Go.Proofs.Ytlafobfjbkhioaa.PFnStoreBook
open Go.RowKit Go.Proofs.YtlafobfjbkhioaaW.PrintWords Go.Proofs.YtlafobfjbkhioaaW.PrintLast Go.Proofs.YtlafobfjbkhioaaW.PrintMore
attribute [local go_sem] max2_int min2_int max_two min_two max_three min_three max_four min_four   -- for this text's walks alone
set_option linter.unusedVariables false
set_option linter.unusedSimpArgs false

/-! ### impl_SlabTake: function 50 -/
def impl_SlabTake.j0 : Nat → Int → Bool → Int → List Int → Option (Int × List Int × Int × Int)
  | 0, _, _, _, _ => none
  | k + 1, x1, x16, x190000, x190001 => if x16 = true then (some (0, ([] : List Int), (-1), 1)) else ((impl_Slab_chain.f k x190000 x190001 x190000).bind fun t192 => (if (t192.length : Int) < x1 then (some (0, ([] : List Int), (-1), 2)) else ((impl_copySlab.f x190000 x190001).bind fun bt195 => (if 0 ≤ (wrap64 (x1 - 1)) then (if (wrap64 (x1 - 1)) < (t192.length : Int) then (if 0 ≤ (rd t192 (wrap64 (x1 - 1))) then (if (rd t192 (wrap64 (x1 - 1))) < (x190001.length : Int) then (if (rd t192 (wrap64 (x1 - 1))) < (bt195.2.length : Int) then (some (rd x190001 (rd t192 (wrap64 (x1 - 1))), (bt195.2.set ((rd t192 (wrap64 (x1 - 1))) : Int).toNat (-1)), x190000, 0)) else (none)) else (none)) else (none)) else (none)) else (none)))))
def impl_SlabTake.f (k : Nat) (a0_0 : Int) (l0_1 : List Int) (a1 : Int) : Option (Int × List Int × Int × Int) := (impl_SlabOk.f k a0_0 l0_1).bind fun t191 => (if t191 = true then (impl_SlabTake.j0 k a1 (decide (a1 < 1)) a0_0 l0_1) else (impl_SlabTake.j0 k a1 true a0_0 l0_1))
theorem impl_SlabTake.mono_l : ∀ k, (∀ y0 y1 y2 y3, LeO (impl_SlabTake.j0 k y0 y1 y2 y3) (impl_SlabTake.j0 (k + 1) y0 y1 y2 y3))
 | 0 => fun _ _ _ _ r h => by simp [impl_SlabTake.j0] at h
 | k + 1 => by
  have ih0 := impl_SlabTake.mono_l k
  ·intro y0 y1 y2 y3
   unfold impl_SlabTake.j0
   repeat' first
   | (with_reducible exact ih0 _ _ _ _)
   | (with_reducible exact impl_SlabOk.mono _ _ _)
   | (with_reducible exact impl_Slab_chain.mono _ _ _ _)
   | (with_reducible exact LeO.refl _)
   | (with_reducible exact LeO.none _)
   | (with_reducible refine LeO.ite ?_ ?_)
   | (with_reducible refine LeO.bind ?_ (fun _ => ?_))
   | exact ih0 _ _ _ _
   | exact impl_SlabOk.mono _ _ _
   | exact impl_Slab_chain.mono _ _ _ _
   | exact LeO.none _
   | refine LeO.ite ?_ ?_
   | refine LeO.bind ?_ (fun _ => ?_)
theorem impl_SlabTake.mono : ∀ a0 a1 a2 k, LeO (impl_SlabTake.f k a0 a1 a2) (impl_SlabTake.f (k + 1) a0 a1 a2) := by
 intro a0 a1 a2 k
 have ih0 := impl_SlabTake.mono_l k
 unfold impl_SlabTake.f
 repeat' first
   | (with_reducible exact ih0 _ _ _ _)
   | (with_reducible exact impl_SlabOk.mono _ _ _)
   | (with_reducible exact impl_Slab_chain.mono _ _ _ _)
   | (with_reducible exact LeO.refl _)
   | (with_reducible exact LeO.none _)
   | (with_reducible refine LeO.ite ?_ ?_)
   | (with_reducible refine LeO.bind ?_ (fun _ => ?_))
   | exact ih0 _ _ _ _
   | exact impl_SlabOk.mono _ _ _
   | exact impl_Slab_chain.mono _ _ _ _
   | exact LeO.none _
   | refine LeO.ite ?_ ?_
   | refine LeO.bind ?_ (fun _ => ?_)
def impl_SlabTake.T6 : Bool × List (List Nat × List Nat) := (true, [([], []), ([0], [0]), ([], []), ([], []), ([3], [3]), ([2, 4], [2, 4]), ([5], [5]), ([], []), ([7, 1, 1, 0, 1, 7], [1, 7]), ([6, 8, 0, 1, 2, 3, 4, 5, 6, 7, 8], [6])])
def impl_SlabTake.B6 : List Nat := [0, 1, 0, 0, 8, 28, 60, 0, 131, 511]
theorem impl_SlabTake.tab6 : rtab .any (opsOf Try.f50 6) = impl_SlabTake.T6 := by kernel_rfl
theorem impl_SlabTake.bits6 : waitsOk impl_SlabTake.T6.2 impl_SlabTake.B6 = true := by kernel_rfl
def impl_SlabTake.T7 : Bool × List (List Nat × List Nat) := (true, [([], []), ([0], [0]), ([], []), ([], []), ([3], [3]), ([], []), ([4, 5], [4, 5]), ([6], [6]), ([0, 1, 3, 4, 5, 6, 7], []), ([8, 7, 0, 1, 3, 4, 5, 6, 7], [7, 8]), ([1, 2, 0, 1, 2, 3, 4, 5, 6, 7, 8, 9], [1, 2]), ([10, 9, 0, 1, 2, 3, 4, 5, 6, 7, 8, 9], [10])])
def impl_SlabTake.B7 : List Nat := [0, 1, 0, 0, 8, 0, 56, 120, 251, 507, 1023, 2047]
theorem impl_SlabTake.tab7 : rtab .any (opsOf Try.f50 7) = impl_SlabTake.T7 := by kernel_rfl
theorem impl_SlabTake.bits7 : waitsOk impl_SlabTake.T7.2 impl_SlabTake.B7 = true := by kernel_rfl
set_option maxHeartbeats 8000000 in
set_option maxRecDepth 100000 in
theorem impl_SlabTake.calls (k : Nat) (a0_0 : Int) (A0_1 : Option Addr) (c0_1 : Nat) (l0_1 : List Int) (a1 : Int) (r1 : Int) (r2 : List Int) (r3 : Int) (r4 : Int) (w : World) (hr0_1 : Kd.C (Kd.int .i64) w A0_1 l0_1.length l0_1) (hc0_1 : l0_1.length ≤ c0_1) (h : impl_SlabTake.f k a0_0 l0_1 a1 = some (r1, r2, r3, r4)) :
  Calls Try.prog 50 #[.agg #[.int .i64 a0_0, .slice A0_1 l0_1.length c0_1], .int .i64 a1] w fun e w' => ∃ v1_ : Value, e = .returned (.tuple #[.agg #[.int .i64 r1, v1_], .int .i64 r3, .int .i64 r4]) ∧ Kd.R (Kd.int .i64) 3 w' w.heap.size (fun _ => True) v1_ r2 ∧ Below w.heap.size w w' := by
 have hu27 := Try.underlying27
 have HR0_1 := Aside0.mk hr0_1
 have HC0_1 := Aside0.mk hc0_1
 clear hr0_1 hc0_1; have HB := Aside0.mk (Below.refl w.heap.size w)
 have H : ((impl_SlabOk.f k a0_0 l0_1).bind fun t191 => (if t191 = true then (impl_SlabTake.j0 k a1 (decide (a1 < 1)) a0_0 l0_1) else (impl_SlabTake.j0 k a1 true a0_0 l0_1))) = some (r1, r2, r3, r4) := h
 clear h
 have HC3 := Aside0.mk H
 clear H
 go_enter Try.func50, Try.ntmps50
 go_upto_region 1 with (first | ((with_reducible refine gd_ 2 rfl ?_); refine bv_ 2 #[.int .i64 a0_0, .slice A0_1 l0_1.length c0_1] 27 ?_; intro gb189 hg w4 hbox hb; have BK189 := Aside0.mk (hbox); have GW189 := gw_ HB hg; have GE189 := gw_ HB hg; replace HB := Aside0.mk (below_step (be_ HB) hb); clear hb hbox hg) | ((with_reducible refine gd_ 4 rfl ?_); refine bv_ 4 #[.int .i64 0, .slice none 0 0] 27 ?_; intro gb190 hg w5 hbox hb; have BK190 := Aside0.mk (hbox); have GW190 := gw_ HB hg; have GE190 := gw_ HB hg; replace HB := Aside0.mk (below_step (bf_ HB) hb); have NB189_190 := nl_ BK189 hg; have NB190_189 := ng_ BK189 hg; replace BK189 := bb_ BK189 hb; clear hb hbox hg))
 (try simp only [Act.put, ls0_, ls1_, ls2_])
 go_cut [16] (fun v16 wc => ∃ (kq : Nat) (x16_2 : Bool), v16 = .bool x16_2 ∧ Aside0 (impl_SlabTake.j0 kq a1 x16_2 a0_0 l0_1 = some (r1, r2, r3, r4)) ∧ Aside0 (kq ≤ k) ∧ Aside0 (wc.heap[gb189]? = some (.cells #[.int .i64 a0_0, (.slice A0_1 l0_1.length c0_1)] 27 (0, 0))) ∧ Aside0 (wc.heap[gb190]? = some (.cells #[.int .i64 0, (.slice none 0 0)] 27 (0, 0))) ∧ Aside0 (Below w.heap.size w wc))
 case first =>
  have H := HC3.out
  clear HC3
  replace H := Option.bind_eq_some_iff.mp H
  obtain ⟨t191, A60, H⟩ := H
  replace H : (if t191 = true then (impl_SlabTake.j0 k a1 (decide (a1 < 1)) a0_0 l0_1) else (impl_SlabTake.j0 k a1 true a0_0 l0_1)) = some (r1, r2, r3, r4) := H
  have A6 := Aside0.mk A60
  clear A60
  by_cases c7 : t191 = true
  ·subst c7
   have H1 : (impl_SlabTake.j0 k a1 (decide (a1 < 1)) a0_0 l0_1) = some (r1, r2, r3, r4) := by rw [if_pos rfl] at H; exact H
   clear H
   have H := H1
   clear H1
   have H' := Aside0.mk H
   clear H; have hnb8 := NB189_190.out; have hnc8 := NB190_189.out; obtain ⟨hcz9_0, hcz9_1, hfz9_0, hfz9_1⟩ := bz2_ BK189
   go_wp2_with (first | ((with_reducible refine gc_ 53 rfl ?_); refine gl_ 11 Try.func53 #[.agg #[.int .i64 a0_0, .slice A0_1 l0_1.length c0_1]] ?_; (with_reducible refine (impl_SlabOk.calls k a0_0 _ _ l0_1 true _ ?side1 ?side2 A6.out).mono ?_); (case side1 => repeat (first | exact (Kd.C_below HR0_1.out HB.out) | (with_reducible refine Kd.C_alloc ?_ _) | (with_reducible refine Kd.C_drewN ?_ _) | (with_reducible refine Kd.C_drew ?_))); (case side2 => exact HC0_1.out); rintro e w10 ⟨rfl, hb⟩; refine ⟨_, rfl, ?_⟩; replace BK189 := bb_ BK189 hb; replace BK190 := bb_ BK190 hb; replace HB := Aside0.mk (below_step (bf_ HB) hb); (try clear hb); (try clear hb2); (try clear hk); (try clear hi)))
   go_meet
   case rel => exact ⟨_, (decide (a1 < 1)), (by first | rfl | (simp; done) | (simp [*]; done)), H', ⟨by first | omega | exact Nat.le_refl _⟩, ⟨bk_ BK189⟩, ⟨bk_ BK190⟩, ⟨bf_ HB⟩⟩
  ·replace c7 := Bool.eq_false_iff.mpr c7
   subst c7
   have H1 : (impl_SlabTake.j0 k a1 true a0_0 l0_1) = some (r1, r2, r3, r4) := by rw [if_neg (show ¬ (false = true) by decide)] at H; exact H
   clear H
   have H := H1
   clear H1
   have H' := Aside0.mk H
   clear H; have hnb11 := NB189_190.out; have hnc11 := NB190_189.out; obtain ⟨hcz12_0, hcz12_1, hfz12_0, hfz12_1⟩ := bz2_ BK189
   go_wp2_with (first | ((with_reducible refine gc_ 53 rfl ?_); refine gl_ 11 Try.func53 #[.agg #[.int .i64 a0_0, .slice A0_1 l0_1.length c0_1]] ?_; (with_reducible refine (impl_SlabOk.calls k a0_0 _ _ l0_1 false _ ?side1 ?side2 A6.out).mono ?_); (case side1 => repeat (first | exact (Kd.C_below HR0_1.out HB.out) | (with_reducible refine Kd.C_alloc ?_ _) | (with_reducible refine Kd.C_drewN ?_ _) | (with_reducible refine Kd.C_drew ?_))); (case side2 => exact HC0_1.out); rintro e w13 ⟨rfl, hb⟩; refine ⟨_, rfl, ?_⟩; replace BK189 := bb_ BK189 hb; replace BK190 := bb_ BK190 hb; replace HB := Aside0.mk (below_step (bf_ HB) hb); (try clear hb); (try clear hb2); (try clear hk); (try clear hi)))
   go_meet
   case rel => exact ⟨_, (true), (by first | rfl | (simp; done) | (simp [*]; done)), H', ⟨by first | omega | exact Nat.le_refl _⟩, ⟨bk_ BK189⟩, ⟨bk_ BK190⟩, ⟨bf_ HB⟩⟩
 case rest =>
  clear HC3; (try clear c1); (try clear p2); (try clear c5); (try clear c7); (try clear c8); (try clear c11); (try clear hcz12_0 hcz12_1 hfz12_0 hfz12_1); (try clear hcz9_0 hcz9_1 hfz9_0 hfz9_1)
  obtain ⟨kq, x16_2, rfl, HA, HJ2, BK189, BK190, HB⟩ := hcut
  cases kq with
  | zero => exact absurd HA.out (by simp [impl_SlabTake.j0])
  | succ kj2 =>
   have H := HA.out
   clear HA
   simp only [impl_SlabTake.j0] at H
   by_cases c14 : x16_2 = true
   ·subst c14
    have H1 : (some (0, ([] : List Int), (-1), 1)) = some (r1, r2, r3, r4) := by rw [if_pos rfl] at H; exact H
    clear H
    have H := H1
    clear H1
    simp only [Option.some.injEq, Prod.mk.injEq] at H
    obtain ⟨rfl, rfl, rfl, rfl⟩ := H
    have hnb15 := NB190_189.out; have hnc15 := NB189_190.out; obtain ⟨hcz16_0, hcz16_1, hfz16_0, hfz16_1⟩ := bz2_ BK190
    go_wp2
    refine bodyPost_ret (results_ctt rfl _ _ gb190 27 #[.int .i64 0, .slice none 0 0] (0, 0) _ rfl (by (with_reducible repeat (first | refine blk_drewN ?_ _ | refine blk_drew ?_ | refine blk_alloc ?_ _)); refine blk_put (cs := #[.int .i64 0, .slice none 0 0]) ?_ 1 _ rfl; (with_reducible repeat (first | refine blk_drewN ?_ _ | refine blk_drew ?_ | refine blk_alloc ?_ _)); refine blk_put (cs := #[.int .i64 0, .slice none 0 0]) ?_ 0 _ rfl; exact bk_ BK190) Try.underlying27 rfl (by kernel_rfl)) rfl ?_
    exact ⟨_, by first | rfl | (simp [errW_none, errW_some] <;> rfl) | (simp [*, errW_none, errW_some] <;> rfl), by first | exact Kd.R_nil _ _ _ _ _ | exact Kd.N_nil _ _ _ _ _ | exact Kd.V_nil _ _ _ _ _ | exact Kd.Q_nil _ _ _ _ _ | exact Kd.S_nil _ _ _ _ _, bf_ HB⟩
   ·replace c14 := Bool.eq_false_iff.mpr c14
    subst c14
    have H1 : ((impl_Slab_chain.f kj2 a0_0 l0_1 a0_0).bind fun t192 => (if (t192.length : Int) < a1 then (some (0, ([] : List Int), (-1), 2)) else ((impl_copySlab.f a0_0 l0_1).bind fun bt195 => (if 0 ≤ (wrap64 (a1 - 1)) then (if (wrap64 (a1 - 1)) < (t192.length : Int) then (if 0 ≤ (rd t192 (wrap64 (a1 - 1))) then (if (rd t192 (wrap64 (a1 - 1))) < (l0_1.length : Int) then (if (rd t192 (wrap64 (a1 - 1))) < (bt195.2.length : Int) then (some (rd l0_1 (rd t192 (wrap64 (a1 - 1))), (bt195.2.set ((rd t192 (wrap64 (a1 - 1))) : Int).toNat (-1)), a0_0, 0)) else (none)) else (none)) else (none)) else (none)) else (none))))) = some (r1, r2, r3, r4) := by rw [if_neg (show ¬ (false = true) by decide)] at H; exact H
    clear H
    have H := H1
    clear H1
    replace H := Option.bind_eq_some_iff.mp H
    obtain ⟨t192, A170, H⟩ := H
    replace H : (if (t192.length : Int) < a1 then (some (0, ([] : List Int), (-1), 2)) else ((impl_copySlab.f a0_0 l0_1).bind fun bt195 => (if 0 ≤ (wrap64 (a1 - 1)) then (if (wrap64 (a1 - 1)) < (t192.length : Int) then (if 0 ≤ (rd t192 (wrap64 (a1 - 1))) then (if (rd t192 (wrap64 (a1 - 1))) < (l0_1.length : Int) then (if (rd t192 (wrap64 (a1 - 1))) < (bt195.2.length : Int) then (some (rd l0_1 (rd t192 (wrap64 (a1 - 1))), (bt195.2.set ((rd t192 (wrap64 (a1 - 1))) : Int).toNat (-1)), a0_0, 0)) else (none)) else (none)) else (none)) else (none)) else (none)))) = some (r1, r2, r3, r4) := H
    have A17 := Aside0.mk A170
    clear A170
    by_cases c18 : (t192.length : Int) < a1
    ·rw [if_pos c18] at H
     have c18b0 : decide ((t192.length : Int) < a1) = true := decide_eq_true c18
     clear c18
     simp only [Option.some.injEq, Prod.mk.injEq] at H
     obtain ⟨rfl, rfl, rfl, rfl⟩ := H
     have hnb19 := NB189_190.out; have hnc19 := NB190_189.out; obtain ⟨hcz20_0, hcz20_1, hfz20_0, hfz20_1⟩ := bz2_ BK189
     go_wp2_with (first | ((with_reducible refine gc_ 51 rfl ?_); refine gl_ 21 Try.func51 #[.agg #[.int .i64 a0_0, .slice A0_1 l0_1.length c0_1], .int .i64 a0_0] ?_; (with_reducible refine (impl_Slab_chain.calls kj2 a0_0 _ _ l0_1 a0_0 t192 _ ?side1 ?side2 A17.out).mono ?_); (case side1 => repeat (first | exact (Kd.C_below HR0_1.out HB.out) | (with_reducible refine Kd.C_alloc ?_ _) | (with_reducible refine Kd.C_drewN ?_ _) | (with_reducible refine Kd.C_drew ?_))); (case side2 => exact HC0_1.out); rintro e w21 ⟨v193, rfl, ho0, hb⟩; refine ⟨_, rfl, ?_⟩; have HO194 := Aside0.mk (Kd.R_lower ho0 (below_size (bf_ HB))); replace BK189 := bb_ BK189 hb; replace BK190 := bb_ BK190 hb; replace HB := Aside0.mk (below_step (bf_ HB) hb); (try clear hb); (try clear hb2); (try clear hk); (try clear hi); (try clear ho0); obtain ⟨Ao22, co22, eo22⟩ := Kd.R_slice HO194.out; subst eo22; obtain ⟨hcz23_0, hcz23_1, hfz23_0, hfz23_1⟩ := bz2_ BK190))
     refine bodyPost_ret (results_ctt rfl _ _ gb190 27 #[.int .i64 0, .slice none 0 0] (0, 0) _ rfl (by (with_reducible repeat (first | refine blk_drewN ?_ _ | refine blk_drew ?_ | refine blk_alloc ?_ _)); refine blk_put (cs := #[.int .i64 0, .slice none 0 0]) ?_ 1 _ rfl; (with_reducible repeat (first | refine blk_drewN ?_ _ | refine blk_drew ?_ | refine blk_alloc ?_ _)); refine blk_put (cs := #[.int .i64 0, .slice none 0 0]) ?_ 0 _ rfl; exact bk_ BK190) Try.underlying27 rfl (by kernel_rfl)) rfl ?_
     exact ⟨_, by first | rfl | (simp [errW_none, errW_some] <;> rfl) | (simp [*, errW_none, errW_some] <;> rfl), by first | exact Kd.R_nil _ _ _ _ _ | exact Kd.N_nil _ _ _ _ _ | exact Kd.V_nil _ _ _ _ _ | exact Kd.Q_nil _ _ _ _ _ | exact Kd.S_nil _ _ _ _ _, bf_ HB⟩
    ·rw [if_neg c18] at H
     have c18b0 : decide ((t192.length : Int) < a1) = false := decide_eq_false c18
     clear c18
     replace H := Option.bind_eq_some_iff.mp H
     obtain ⟨⟨t195, t196⟩, A240, H⟩ := H
     replace H : (if 0 ≤ (wrap64 (a1 - 1)) then (if (wrap64 (a1 - 1)) < (t192.length : Int) then (if 0 ≤ (rd t192 (wrap64 (a1 - 1))) then (if (rd t192 (wrap64 (a1 - 1))) < (l0_1.length : Int) then (if (rd t192 (wrap64 (a1 - 1))) < (t196.length : Int) then (some (rd l0_1 (rd t192 (wrap64 (a1 - 1))), (t196.set ((rd t192 (wrap64 (a1 - 1))) : Int).toNat (-1)), a0_0, 0)) else (none)) else (none)) else (none)) else (none)) else (none)) = some (r1, r2, r3, r4) := H
     have A24 := Aside0.mk A240
     clear A240
     obtain ⟨ji25, hji25⟩ : ∃ j_ : Int, (wrap64 (a1 - 1)) = j_ := ⟨_, rfl⟩
     replace H : (if 0 ≤ (ji25) then (if (ji25) < (t192.length : Int) then (if 0 ≤ (rd t192 (ji25)) then (if (rd t192 (ji25)) < (l0_1.length : Int) then (if (rd t192 (ji25)) < (t196.length : Int) then (some (rd l0_1 (rd t192 (ji25)), (t196.set ((rd t192 (ji25)) : Int).toNat (-1)), a0_0, 0)) else (none)) else (none)) else (none)) else (none)) else (none)) = some (r1, r2, r3, r4) := by first | (rw [hji25] at H; exact H) | (simp only [hji25] at H ⊢; exact H)
     (try rw [hji25] at A17)
     (try rw [hji25] at A24)
     have hji25w : (IntKind.i64.wrap (a1 - 1)) = ji25 := (i64_w _).trans hji25
     by_cases c26 : 0 ≤ (ji25)
     ·rw [if_pos c26] at H
      have c26b0 : decide (0 ≤ (ji25)) = true := decide_eq_true c26
      clear c26
      by_cases c27 : (ji25) < (t192.length : Int)
      ·rw [if_pos c27] at H
       have c27b0 : decide ((ji25) < (t192.length : Int)) = true := decide_eq_true c27
       clear c27
       by_cases c28 : 0 ≤ (rd t192 (ji25))
       ·rw [if_pos c28] at H
        have c28b0 : decide (0 ≤ (rd t192 (ji25))) = true := decide_eq_true c28
        clear c28
        by_cases c29 : (rd t192 (ji25)) < (l0_1.length : Int)
        ·rw [if_pos c29] at H
         have c29b0 : decide ((rd t192 (ji25)) < (l0_1.length : Int)) = true := decide_eq_true c29
         clear c29
         by_cases c30 : (rd t192 (ji25)) < (t196.length : Int)
         ·rw [if_pos c30] at H
          have c30b0 : decide ((rd t192 (ji25)) < (t196.length : Int)) = true := decide_eq_true c30
          clear c30
          obtain ⟨y202, hy202⟩ : ∃ y_ : List Int, y_ = (t196.set ((rd t192 (ji25)) : Int).toNat (-1)) := ⟨_, rfl⟩
          replace H : (some (rd l0_1 (rd t192 (ji25)), y202, a0_0, 0)) = some (r1, r2, r3, r4) := by first | (rw [hy202]; with_reducible exact H) | (have H2_ := (Option.bind_some _ _).symm.trans H; rw [hy202]; with_reducible exact H2_) | (have H2_ := (Option.bind_some _ _).symm.trans H; with_reducible exact H2_) | with_reducible exact H | (rw [hy202]; exact H) | exact H
          have Ny202 := Aside0.mk hy202
          clear hy202
          simp only [Option.some.injEq, Prod.mk.injEq] at H
          obtain ⟨rfl, rfl, rfl, rfl⟩ := H
          have hnb32 := NB189_190.out; have hnc32 := NB190_189.out; obtain ⟨hcz33_0, hcz33_1, hfz33_0, hfz33_1⟩ := bz2_ BK189
          try go_wp2_with (first | ((with_reducible refine gc_ 51 rfl ?_); refine gl_ 21 Try.func51 #[.agg #[.int .i64 a0_0, .slice A0_1 l0_1.length c0_1], .int .i64 a0_0] ?_; (with_reducible refine (impl_Slab_chain.calls kj2 a0_0 _ _ l0_1 a0_0 t192 _ ?side1 ?side2 A17.out).mono ?_); (case side1 => repeat (first | exact (Kd.C_below HR0_1.out HB.out) | (with_reducible refine Kd.C_alloc ?_ _) | (with_reducible refine Kd.C_drewN ?_ _) | (with_reducible refine Kd.C_drew ?_))); (case side2 => exact HC0_1.out); rintro e w34 ⟨v193, rfl, ho0, hb⟩; refine ⟨_, rfl, ?_⟩; have HO194 := Aside0.mk (Kd.R_lower ho0 (below_size (bf_ HB))); replace BK189 := bb_ BK189 hb; replace BK190 := bb_ BK190 hb; replace HB := Aside0.mk (below_step (bf_ HB) hb); (try clear hb); (try clear hb2); (try clear hk); (try clear hi); (try clear ho0); obtain ⟨Ao35, co35, eo35⟩ := Kd.R_slice HO194.out; subst eo35))
          replace HO194 := Aside0.mk (Kd.R_drew HO194.out); replace BK189 := Aside0.mk (blk_drew BK189.out); replace BK190 := Aside0.mk (blk_drew BK190.out); replace HB := Aside0.mk (below_drew1 HB.out)
          have p199 : 0 ≤ ((ji25) : Int) := od_
          have q199 : (ji25) < (t192.length : Int) := od_
          obtain ⟨ad199, e199, hx199_0⟩ := Kd.at_int (Kd.R_reads' HO194.out).2.2 (ji25) p199 q199
          cases e199
          replace p199 := eq_true p199
          replace q199 := eq_true q199
          refine start_ (n := 10) (S := fun w' => cw_ w' gb189 0 (.int .i64 a0_0) ∧ cw_ w' gb189 1 (.slice A0_1 l0_1.length c0_1) ∧ w'.cell? (ad199.add ((ji25)).toNat) = some (.int .i64 (rd t192 (ji25)))) (ds := []) (bs 10 0) (by kernel_rfl) rfl rfl ⟨bt_ BK189 0, bt_ BK189 1, hx199_0⟩ (fun hHeld => ?_); refine with_tabW impl_SlabTake.tab6 impl_SlabTake.bits6 (fun HT_ HW_ => ?_)
          generalize w34.drew = w36 at HO194 BK189 BK190 HB hx199_0 hHeld ⊢
          refine ps_ 2 29 (bm 10 4) HT_ ?_
          refine ps_ 3 30 (bm 10 12) HT_ ?_
          refine ps_ 4 31 (bm 10 28) HT_ ?_
          refine ps_ 5 32 (bm 10 60) HT_ ?_
          refine tk_ 0 27 (bm 10 61) HT_ HW_ hHeld ?_
          refine tk_ 6 33 (bm 10 125) HT_ HW_ hHeld ?_
          refine join_ (σ := Value × Nat) 2 (bs 10 8) (fun s_ => [(28, .agg #[.int .i64 t195, s_.1]), (8, .pointer (some ⟨s_.2, 0, none⟩))]) (fun s_ w' => (w'.cell? ⟨gb189, 0, none⟩ = some (.int .i64 a0_0) ∧ w'.cell? ⟨gb189, 1, none⟩ = some (.slice A0_1 l0_1.length c0_1) ∧ w'.cell? (ad199.add ((ji25)).toNat) = some (.int .i64 (rd t192 (ji25)))) ∧ (Kd.R (Kd.int .i64) 3 w' w.heap.size (fun k_ => some k_ ≠ (s_.1 : Value).ownBlock) (.slice (some ad199) t192.length co35) t192) ∧ (Kd.R (Kd.int .i64) 3 w' w.heap.size (fun k_ => some k_ ≠ (.slice (some ad199) t192.length co35 : Value).ownBlock) s_.1 t196) ∧ (w'.heap[gb189]? = some (.cells #[.int .i64 a0_0, .slice A0_1 l0_1.length c0_1] 27 (0, 0))) ∧ (w'.heap[gb190]? = some (.cells #[.int .i64 0, .slice none 0 0] 27 (0, 0))) ∧ (w'.heap[s_.2]? = some (.cells #[.int .i64 0, .slice none 0 0] 27 (0, 0))) ∧ (w.heap.size ≤ s_.2) ∧ (w.heap.size ≤ s_.2) ∧ (gb189 ≠ s_.2) ∧ (s_.2 ≠ gb189) ∧ (gb190 ≠ s_.2) ∧ (s_.2 ≠ gb190) ∧ (Below w.heap.size w w')) ?_ ?_
          rotate_left
          ·intro hCont
           refine two_ (i := 1) (j := 7) (Ni := some 28) (Nj := some 8) (bs 10 7) (bm 10 253) rfl rfl rfl rfl (two_of HT_.out (by kernel_rfl)) (by decide) (by decide) (fun K hK => ?_) (fun K hK => ?_)
           ·skip
            refine gs_ Try.func117 #[.agg #[.int .i64 a0_0, .slice A0_1 l0_1.length c0_1]] ?_
            with_reducible refine (impl_copySlab.calls a0_0 _ _ l0_1 t195 t196 _ ?side1 ?side2 A24.out).mono ?_
            (case side1 => repeat (first | exact (Kd.C_below HR0_1.out HB.out) | (with_reducible refine Kd.C_alloc ?_ _) | (with_reducible refine Kd.C_drewN ?_ _) | (with_reducible refine Kd.C_drew ?_)))
            (case side2 => exact HC0_1.out)
            rintro e w37 ⟨v197, rfl, ho0, hb⟩
            have HS2_ := hc_ hb hHeld.2.2
            refine ⟨_, rfl, ?_⟩
            have HO198 := Aside0.mk (Kd.R_lower (Kd.R_new' ho0 (Kd.R_lt (kr_ HO194))) (below_size (bf_ HB))); replace HO194 := Aside0.mk (Kd.R_elder' (kr_ HO194) (Kd.R_base ho0) hb); replace BK189 := bb_ BK189 hb; replace BK190 := bb_ BK190 hb; replace HB := Aside0.mk (below_step (bf_ HB) hb); (try clear hb); (try clear hb2); (try clear hk); (try clear hi); (try clear ho0)
            refine hK.out _ _ ⟨bt_ BK189 0, bt_ BK189 1, HS2_⟩ (fun hHeld => ?_)
            clear hK K
            refine norm_ (a' := ?_) ?_ ?_
            rotate_left
            ·show Act.put _ (some 28) _ = _
             simp only [Act.put, ls0_, ls1_, ls2_, i64_w, i32_w]
             rfl
            refine on_ 7 (some 8) (bs 10 8) HT_ (fun K hK => ?_)
            refine box_step ?hg (N := 8) ?hd (cs := #[.int .i64 0, .slice none 0 0]) (t := 27) ?hr ?_; (case hd => rfl); (case hg => rfl); (case hr => first | (go_simp; done) | (go_simp; rfl))
            intro gb200 hg w38 hbox hb
            have HS2_ := hc_ hb hHeld.2.2
            replace HO194 := Aside0.mk (Kd.R_below (kr_ HO194) hb); replace HO198 := Aside0.mk (Kd.R_below (kr_ HO198) hb); have BK200 := Aside0.mk (hbox); have GW200 := gw_ HB hg; have GE200 := gw_ HB hg; replace HB := Aside0.mk (below_step (bf_ HB) hb); have NB189_200 := nl_ BK189 hg; have NB200_189 := ng_ BK189 hg; replace BK189 := bb_ BK189 hb; have NB190_200 := nl_ BK190 hg; have NB200_190 := ng_ BK190 hg; replace BK190 := bb_ BK190 hb; clear hb hbox hg
            refine hK.out _ _ ⟨bt_ BK189 0, bt_ BK189 1, HS2_⟩ (fun hHeld => ?_)
            clear hK K
            refine norm_ (a' := ?_) ?_ ?_
            rotate_left
            ·show Act.put _ (some 8) _ = _
             simp only [Act.put, ls0_, ls1_, ls2_, i64_w, i32_w]
             rfl
            exact norm_ (by simp only [putAll, Act.put, ls0_, ls1_, ls2_]) (hCont (v197, gb200) _ ⟨hHeld, (by (with_reducible repeat (first | apply Kd.R_alloc | apply Kd.R_drewN | apply Kd.R_drew)); exact Kd.R_mono HO194.out (fun _ hk => by first | exact hk.2 | grind)), (by (with_reducible repeat (first | apply Kd.R_alloc | apply Kd.R_drewN | apply Kd.R_drew)); exact Kd.R_mono HO198.out (fun _ hk => by first | exact hk.2 | grind)), (bk_ BK189), (bk_ BK190), (bk_ BK200), GW200.out, GE200.out, NB189_200.out, NB200_189.out, NB190_200.out, NB200_190.out, (bf_ HB)⟩)
           ·skip
            refine box_step ?hg (N := 8) ?hd (cs := #[.int .i64 0, .slice none 0 0]) (t := 27) ?hr ?_; (case hd => rfl); (case hg => rfl); (case hr => first | (go_simp; done) | (go_simp; rfl))
            intro gb200 hg w37 hbox hb
            have HS2_ := hc_ hb hHeld.2.2
            replace HO194 := Aside0.mk (Kd.R_below (kr_ HO194) hb); have BK200 := Aside0.mk (hbox); have GW200 := gw_ HB hg; have GE200 := gw_ HB hg; replace HB := Aside0.mk (below_step (bf_ HB) hb); have NB189_200 := nl_ BK189 hg; have NB200_189 := ng_ BK189 hg; replace BK189 := bb_ BK189 hb; have NB190_200 := nl_ BK190 hg; have NB200_190 := ng_ BK190 hg; replace BK190 := bb_ BK190 hb; clear hb hbox hg
            refine hK.out _ _ ⟨bt_ BK189 0, bt_ BK189 1, HS2_⟩ (fun hHeld => ?_)
            clear hK K
            refine norm_ (a' := ?_) ?_ ?_
            rotate_left
            ·show Act.put _ (some 8) _ = _
             simp only [Act.put, ls0_, ls1_, ls2_, i64_w, i32_w]
             rfl
            refine on_ 1 (some 28) (bs 10 8) HT_ (fun K hK => ?_)
            refine gs_ Try.func117 #[.agg #[.int .i64 a0_0, .slice A0_1 l0_1.length c0_1]] ?_
            with_reducible refine (impl_copySlab.calls a0_0 _ _ l0_1 t195 t196 _ ?side1 ?side2 A24.out).mono ?_
            (case side1 => repeat (first | exact (Kd.C_below HR0_1.out HB.out) | (with_reducible refine Kd.C_alloc ?_ _) | (with_reducible refine Kd.C_drewN ?_ _) | (with_reducible refine Kd.C_drew ?_)))
            (case side2 => exact HC0_1.out)
            rintro e w38 ⟨v197, rfl, ho0, hb⟩
            have HS2_ := hc_ hb hHeld.2.2
            refine ⟨_, rfl, ?_⟩
            have HO198 := Aside0.mk (Kd.R_lower (Kd.R_new' ho0 (Kd.R_lt (kr_ HO194))) (below_size (bf_ HB))); replace HO194 := Aside0.mk (Kd.R_elder' (kr_ HO194) (Kd.R_base ho0) hb); replace BK189 := bb_ BK189 hb; replace BK190 := bb_ BK190 hb; replace BK200 := bb_ BK200 hb; replace HB := Aside0.mk (below_step (bf_ HB) hb); (try clear hb); (try clear hb2); (try clear hk); (try clear hi); (try clear ho0)
            refine hK.out _ _ ⟨bt_ BK189 0, bt_ BK189 1, HS2_⟩ (fun hHeld => ?_)
            clear hK K
            refine norm_ (a' := ?_) ?_ ?_
            rotate_left
            ·show Act.put _ (some 28) _ = _
             simp only [Act.put, ls0_, ls1_, ls2_, i64_w, i32_w]
             rfl
            exact norm_ (by simp only [putAll, Act.put, ls0_, ls1_, ls2_]) (hCont (v197, gb200) _ ⟨hHeld, (by (with_reducible repeat (first | apply Kd.R_alloc | apply Kd.R_drewN | apply Kd.R_drew)); exact Kd.R_mono HO194.out (fun _ hk => by first | exact hk.2 | grind)), (by (with_reducible repeat (first | apply Kd.R_alloc | apply Kd.R_drewN | apply Kd.R_drew)); exact Kd.R_mono HO198.out (fun _ hk => by first | exact hk.2 | grind)), (bk_ BK189), (bk_ BK190), (bk_ BK200), GW200.out, GE200.out, NB189_200.out, NB200_189.out, NB190_200.out, NB200_190.out, (bf_ HB)⟩)
          rintro ⟨v197, gb200⟩ w39 ⟨hS_, h0_, h1_, h2_, h3_, h4_, h5_, h6_, h7_, h8_, h9_, h10_, h11_⟩
          have n0_ : Aside0 (Kd.R (Kd.int .i64) 3 w39 w.heap.size (fun k_ => some k_ ≠ (v197 : Value).ownBlock) (.slice (some ad199) t192.length co35) t192) := ⟨h0_⟩
          have n1_ : Aside0 (Kd.R (Kd.int .i64) 3 w39 w.heap.size (fun k_ => some k_ ≠ (.slice (some ad199) t192.length co35 : Value).ownBlock) v197 t196) := ⟨h1_⟩
          have n2_ : Aside0 (w39.heap[gb189]? = some (.cells #[.int .i64 a0_0, .slice A0_1 l0_1.length c0_1] 27 (0, 0))) := ⟨h2_⟩
          have n3_ : Aside0 (w39.heap[gb190]? = some (.cells #[.int .i64 0, .slice none 0 0] 27 (0, 0))) := ⟨h3_⟩
          have n4_ : Aside0 (w39.heap[gb200]? = some (.cells #[.int .i64 0, .slice none 0 0] 27 (0, 0))) := ⟨h4_⟩
          have n5_ : Aside0 (w.heap.size ≤ gb200) := ⟨h5_⟩
          have n6_ : Aside0 (w.heap.size ≤ gb200) := ⟨h6_⟩
          have n7_ : Aside0 (gb189 ≠ gb200) := ⟨h7_⟩
          have n8_ : Aside0 (gb200 ≠ gb189) := ⟨h8_⟩
          have n9_ : Aside0 (gb190 ≠ gb200) := ⟨h9_⟩
          have n10_ : Aside0 (gb200 ≠ gb190) := ⟨h10_⟩
          have n11_ : Aside0 (Below w.heap.size w w39) := ⟨h11_⟩
          clear HO194 BK189 BK190 HB h0_ h1_ h2_ h3_ h4_ h5_ h6_ h7_ h8_ h9_ h10_ h11_; have HO194 := n0_; have HO198 := n1_; have BK189 := n2_; have BK190 := n3_; have BK200 := n4_; have GW200 := n5_; have GE200 := n6_; have NB189_200 := n7_; have NB200_189 := n8_; have NB190_200 := n9_; have NB200_190 := n10_; have HB := n11_; clear n0_ n1_ n2_ n3_ n4_ n5_ n6_ n7_ n8_ n9_ n10_ n11_
          have hHeld : w39.cell? ⟨gb189, 0, none⟩ = some (.int .i64 a0_0) ∧ w39.cell? ⟨gb189, 1, none⟩ = some (.slice A0_1 l0_1.length c0_1) ∧ w39.cell? (ad199.add ((ji25)).toNat) = some (.int .i64 (rd t192 (ji25))) := hS_
          obtain ⟨Ao41, co41, eo41⟩ := Kd.R_slice HO198.out
          (first | subst eo41 | (injection eo41 with f1_ f2_ f3_; have f4_ := f1_.symm; have f5_ := f3_.symm; clear f1_ f2_ f3_; subst f4_; subst f5_))
          refine norm_ (a' := ?_) ?_ ?_
          rotate_left
          ·simp only [putAll, Act.put, ls0_, ls1_, ls2_]
           rfl
          refine on_ 8 none (bs 10 9) HT_ (fun K hK => ?_)
          have hs40 := bc_ BK200 0 (.int .i64 0) rfl; have hfs40 := blk_frozen BK200.out 0; have hns40_0 := NB189_200.out; have hns40_1 := NB190_200.out; have hms40_0 := NB200_189.out; have hms40_1 := NB200_190.out; have hs42 := bc_ BK200 1 (.slice none 0 0) rfl; have hfs42 := blk_frozen BK200.out 1; have hns42_0 := NB189_200.out; have hns42_1 := NB190_200.out; have hms42_0 := NB200_189.out; have hms42_1 := NB200_190.out
          refine skip_ (w1 := ?_) (by rfl) rfl ?_ ?_
          rotate_left
          ·go_simp
           rfl
          refine hK.out _ _ ⟨(cf2_ NB189_200.out hHeld.1), (cf2_ NB189_200.out hHeld.2.1), (cf2_ (ab_ (Kd.own_blk (Kd.R_ne HO194.out BK200.out (by decide)))) hHeld.2.2)⟩ (fun hHeld => ?_)
          clear hK K
          refine ps_ 9 9 (bs 10 10) HT_ ?_
          refine done_ (done_of HT_.out (by kernel_rfl)) ?_
          try go_wp2
          generalize hW_ : ((w39.setCell ⟨gb200, 0, none⟩ (.int .i64 t195)).setCell ⟨gb200, 1, none⟩ (.slice Ao41 t196.length co41)) = w43
          replace HO194 : Aside0 (Kd.R (Kd.int .i64) 3 w43 w.heap.size (fun k_ => some k_ ≠ (.slice Ao41 t196.length co41 : Value).ownBlock) (.slice (some ad199) t192.length co35) t192) := ⟨by cases hW_; (with_reducible repeat (first | apply Kd.R_alloc | apply Kd.R_drewN | apply Kd.R_drew)); exact Kd.R_mono (Kd.R_far (p := ⟨gb200, 1, none⟩) (Kd.R_far (p := ⟨gb200, 0, none⟩) (Kd.R_types HO194.out BK200.out (by decide)) (fun _ hk => by first | exact hk.2 | grind) (.int .i64 t195)) (fun _ hk => by first | exact hk.2 | grind) (.slice Ao41 t196.length co41)) (fun _ hk => by first | exact hk.1 | grind)⟩
          replace HO198 : Aside0 (Kd.R (Kd.int .i64) 3 w43 w.heap.size (fun k_ => some k_ ≠ (.slice (some ad199) t192.length co35 : Value).ownBlock) (.slice Ao41 t196.length co41) t196) := ⟨by cases hW_; (with_reducible repeat (first | apply Kd.R_alloc | apply Kd.R_drewN | apply Kd.R_drew)); exact Kd.R_mono (Kd.R_far (p := ⟨gb200, 1, none⟩) (Kd.R_far (p := ⟨gb200, 0, none⟩) (Kd.R_types HO198.out BK200.out (by decide)) (fun _ hk => by first | exact hk.2 | grind) (.int .i64 t195)) (fun _ hk => by first | exact hk.2 | grind) (.slice Ao41 t196.length co41)) (fun _ hk => by first | exact hk.1 | grind)⟩
          replace BK189 := fc2_ hW_ BK189 NB189_200
          replace BK190 := fc2_ hW_ BK190 NB190_200
          replace BK200 : Aside0 (w43.heap[gb200]? = some (.cells #[.int .i64 t195, .slice Ao41 t196.length co41] 27 (0, 0))) := pc2_ hW_ BK200
          replace HB : Aside0 (Below w.heap.size w w43) := ⟨by cases hW_; exact bf_ HB⟩
          clear hW_; replace HO194 := Aside0.mk (Kd.R_drew HO194.out); replace HO198 := Aside0.mk (Kd.R_drew HO198.out); replace BK189 := Aside0.mk (blk_drew BK189.out); replace BK190 := Aside0.mk (blk_drew BK190.out); replace BK200 := Aside0.mk (blk_drew BK200.out); replace HB := Aside0.mk (below_drew1 HB.out)
          have p201 : 0 ≤ ((rd t192 (ji25)) : Int) := od_
          have q201 : (rd t192 (ji25)) < (l0_1.length : Int) := od_
          obtain ⟨ad201, e201, hx201_0⟩ := Kd.at_int HR0_1.out (rd t192 (ji25)) p201 q201
          have hw201_0 := hx201_0
          cases e201
          replace hx201_0 := hb_ HB hx201_0
          replace p201 := eq_true p201
          replace q201 := eq_true q201
          have p31 : 0 ≤ ((rd t192 (ji25)) : Int) := od_
          have q31 : ((rd t192 (ji25)) : Int) < ((t196.length : Int) : Int) := od_
          obtain ⟨go31, co31, eo31, gb31, gl31, cl31, HG31⟩ := Kd.R_form HO198.out (by omega)
          (first | cases eo31 | (injection eo31 with ea_ en_ ec_; (first | subst ea_ | (injection ea_ with ea_; subst ea_)); subst ec_; clear en_))
          have GB31 := Aside0.mk gb31
          have GG31 := Aside0.mk HG31
          clear gb31 gl31 HG31
          obtain ⟨hx31_0, hf31_0⟩ := Kd.R_celln 0 (Kd.R_far (p := ⟨gb200, 0, none⟩) (Kd.R_types HO198.out BK200.out (by decide)) (fun _ hk => by first | exact hk.2 | grind) (.int .i64 (rd l0_1 (rd t192 (ji25))))) ((rd t192 (ji25)) : Int) p31 q31
          replace p31 := eq_true p31
          replace q31 := eq_true q31
          have HP46 := Kd.R_putn (Kd.R_far (p := ⟨gb200, 0, none⟩) (Kd.R_types HO198.out BK200.out (by decide)) (fun _ hk => by first | exact hk.2 | grind) (.int .i64 (rd l0_1 (rd t192 (ji25))))) ((rd t192 (ji25)) : Int) (-1)
          rw [← Ny202.out] at HP46
          have HQ46 := Aside0.mk HP46
          clear HP46
          refine start_ (n := 12) (S := fun w' => cw_ w' gb200 0 (.int .i64 t195) ∧ cw_ w' gb200 1 (.slice (some ⟨go31, 0, none⟩) t196.length co41) ∧ cw_ w' gb189 0 (.int .i64 a0_0) ∧ cw_ w' gb189 1 (.slice (some ad201) l0_1.length c0_1) ∧ w'.cell? (ad201.add ((rd t192 (ji25))).toNat) = some (.int .i64 (rd l0_1 (rd t192 (ji25))))) (ds := [9, 11]) (bs 12 0) (by kernel_rfl) rfl rfl ⟨bt_ BK200 0, bt_ BK200 1, bt_ BK189 0, bt_ BK189 1, (hd_ HB hw201_0)⟩ (fun hHeld => ?_); refine with_tabW impl_SlabTake.tab7 impl_SlabTake.bits7 (fun HT_ HW_ => ?_)
          generalize w43.drew = w44 at HO194 HO198 BK189 BK190 BK200 HB GG31 HQ46 hf31_0 hx201_0 hx31_0 hHeld ⊢
          refine ps_ 0 34 (bs 12 1) HT_ ?_
          refine ps_ 2 36 (bm 12 5) HT_ ?_
          refine ps_ 3 37 (bm 12 13) HT_ ?_
          refine ps_ 5 39 (bm 12 45) HT_ ?_
          refine tk_ 1 35 (bm 12 47) HT_ HW_ hHeld ?_
          refine tk_ 4 38 (bs 12 6) HT_ HW_ hHeld ?_
          refine ps_ 6 40 (bs 12 7) HT_ ?_
          refine tk_ 7 41 (bs 12 8) HT_ HW_ hHeld ?_
          refine ps_ 8 42 (bs 12 9) HT_ ?_
          refine last_ (i := 9) (N := none) (bs 12 10) rfl rfl (one_of HT_.out (by kernel_rfl)) (by decide) (fun K hK => ?_)
          have hs45 := bc_ BK200 0 (.int .i64 t195) rfl; have hfs45 := blk_frozen BK200.out 0; have hns45_0 := NB189_200.out; have hns45_1 := NB190_200.out; have hms45_0 := NB200_189.out; have hms45_1 := NB200_190.out
          refine skip_ (w1 := ?_) (by rfl) rfl ?_ ?_
          rotate_left
          ·go_simp
           rfl
          refine hK.out _ _ ?_
          clear hK K
          refine ps_ 10 43 (bs 12 11) HT_ ?_
          refine last_ (i := 11) (N := none) (bs 12 12) rfl rfl (one_of HT_.out (by kernel_rfl)) (by decide) (fun K hK => ?_)
          refine skip_ (w1 := ?_) (by rfl) rfl ?_ ?_
          rotate_left
          ·go_simp
           rfl
          refine hK.out _ _ ?_
          clear hK K
          refine done_ (done_of HT_.out (by kernel_rfl)) ?_
          generalize hW_ : ((w44.setCell ⟨gb200, 0, none⟩ (.int .i64 (rd l0_1 (rd t192 (ji25))))).setCell ⟨go31, ((rd t192 (ji25)) : Int).toNat, none⟩ (.int .i64 (-1))) = w47
          replace HO194 : Aside0 (Kd.R (Kd.int .i64) 3 w47 w.heap.size (fun k_ => some k_ ≠ (.slice (some ⟨go31, 0, none⟩) t196.length co41 : Value).ownBlock) (.slice (some ad199) t192.length co35) t192) := ⟨by cases hW_; (with_reducible repeat (first | apply Kd.R_alloc | apply Kd.R_drewN | apply Kd.R_drew)); exact Kd.R_mono (Kd.R_far (p := ⟨go31, ((rd t192 (ji25)) : Int).toNat, none⟩) (Kd.R_far (p := ⟨gb200, 0, none⟩) (Kd.R_mono (Kd.R_types HO194.out BK200.out (by decide)) (fun k_ hk => by first | exact (⟨hk, fun e_ => hk.1 (by rw [e_]; rfl)⟩ : _ ∧ k_ ≠ go31) | grind)) (fun _ hk => by first | exact hk.1.2 | grind) (.int .i64 (rd l0_1 (rd t192 (ji25))))) (fun _ hk => by first | exact hk.2 | grind) (.int .i64 (-1))) (fun _ hk => by first | exact hk.1.1 | grind)⟩
          replace BK189 : Aside0 (w47.heap[gb189]? = some (.cells #[.int .i64 a0_0, .slice (some ad201) l0_1.length c0_1] 27 (0, 0))) := ⟨by cases hW_; (with_reducible repeat (first | refine blk_drewN ?_ _ | refine blk_drew ?_ | refine blk_alloc ?_ _)); refine blk_far ?_ (by have h_ := Kd.R_ne HO198.out BK189.out (by decide); intro e_; exact h_ (by rw [e_]; rfl)) _; (with_reducible repeat (first | refine blk_drewN ?_ _ | refine blk_drew ?_ | refine blk_alloc ?_ _)); refine blk_far ?_ NB189_200.out _; exact bk_ BK189⟩
          replace BK190 : Aside0 (w47.heap[gb190]? = some (.cells #[.int .i64 0, .slice none 0 0] 27 (0, 0))) := ⟨by cases hW_; (with_reducible repeat (first | refine blk_drewN ?_ _ | refine blk_drew ?_ | refine blk_alloc ?_ _)); refine blk_far ?_ (by have h_ := Kd.R_ne HO198.out BK190.out (by decide); intro e_; exact h_ (by rw [e_]; rfl)) _; (with_reducible repeat (first | refine blk_drewN ?_ _ | refine blk_drew ?_ | refine blk_alloc ?_ _)); refine blk_far ?_ NB190_200.out _; exact bk_ BK190⟩
          replace BK200 : Aside0 (w47.heap[gb200]? = some (.cells #[.int .i64 (rd l0_1 (rd t192 (ji25))), .slice (some ⟨go31, 0, none⟩) t196.length co41] 27 (0, 0))) := ⟨by cases hW_; (with_reducible repeat (first | refine blk_drewN ?_ _ | refine blk_drew ?_ | refine blk_alloc ?_ _)); refine blk_far ?_ (by have h_ := Kd.R_ne HO198.out BK200.out (by decide); intro e_; exact h_ (by rw [e_]; rfl)) _; (with_reducible repeat (first | refine blk_drewN ?_ _ | refine blk_drew ?_ | refine blk_alloc ?_ _)); refine blk_put (cs := #[.int .i64 t195, .slice (some ⟨go31, 0, none⟩) t196.length co41]) ?_ 0 _ rfl; exact bk_ BK200⟩
          replace HO198 : Aside0 (Kd.R (Kd.int .i64) 3 w47 w.heap.size (fun k_ => some k_ ≠ (.slice (some ad199) t192.length co35 : Value).ownBlock) (.slice (some ⟨go31, 0, none⟩) t196.length co41) y202) := ⟨by cases hW_; (with_reducible repeat (first | apply Kd.R_alloc | apply Kd.R_drewN | apply Kd.R_drew)); exact Kd.R_mono HQ46.out (fun _ hk => by first | exact hk.1 | grind)⟩
          replace HB : Aside0 (Below w.heap.size w w47) := ⟨by cases hW_; repeat (first | (with_reducible first | exact HB.out | apply below_alloc | apply pw_below_drewN | apply below_drew1 | refine below_set ?_ GB31.out | refine below_set ?_ GE189.out | refine below_set ?_ GE190.out | refine below_set ?_ GE200.out) | exact HB.out)⟩
          clear hW_
          try go_wp2
          replace HO194 := Aside0.mk (Kd.R_drew HO194.out); replace HO198 := Aside0.mk (Kd.R_drew HO198.out); replace BK189 := Aside0.mk (blk_drew BK189.out); replace BK190 := Aside0.mk (blk_drew BK190.out); replace BK200 := Aside0.mk (blk_drew BK200.out); replace HB := Aside0.mk (below_drew1 HB.out)
          refine start_ (n := 6) (S := fun w' => cw_ w' gb200 0 (.int .i64 (rd l0_1 (rd t192 (ji25)))) ∧ cw_ w' gb200 1 (.slice (some ⟨go31, 0, none⟩) t196.length co41) ∧ cw_ w' gb189 0 (.int .i64 a0_0) ∧ cw_ w' gb189 1 (.slice (some ad201) l0_1.length c0_1)) (ds := []) (bs 6 0) (by kernel_rfl) rfl rfl ⟨bt_ BK200 0, bt_ BK200 1, bt_ BK189 0, bt_ BK189 1⟩ (fun hHeld => ?_)
          generalize w47.drew = w48 at HO194 HO198 BK189 BK190 BK200 HB hHeld ⊢
          refine ps0_ 1 45 #[oF,oT,oF,oF,oF,oF] ?_
          refine tk0_ 0 44 (bs 6 2) hHeld ?_
          refine tk0_ 2 46 (bs 6 3) hHeld ?_
          refine on0_ 3 none (bs 6 4) (fun K hK => ?_)
          have hs49 := bc_ BK190 0 (.int .i64 0) rfl; have hfs49 := blk_frozen BK190.out 0; have hns49_0 := NB189_190.out; have hns49_2 := NB200_190.out; have hms49_0 := NB190_189.out; have hms49_2 := NB190_200.out; have hs50 := bc_ BK190 1 (.slice none 0 0) rfl; have hfs50 := blk_frozen BK190.out 1; have hns50_0 := NB189_190.out; have hns50_2 := NB200_190.out; have hms50_0 := NB190_189.out; have hms50_2 := NB190_200.out
          refine skip_ (w1 := ?_) (by rfl) rfl ?_ ?_
          rotate_left
          ·go_simp
           rfl
          refine hK.out _ _ ⟨(cf2_ NB200_190.out hHeld.1), (cf2_ NB200_190.out hHeld.2.1), (cf2_ NB189_190.out hHeld.2.2.1), (cf2_ NB189_190.out hHeld.2.2.2)⟩ (fun hHeld => ?_)
          clear hK K
          refine ps0_ 4 5 (bs 6 5) ?_
          refine ps0_ 5 6 (bs 6 6) ?_
          refine done_ (by kernel_rfl) ?_
          try go_wp2
          refine bodyPost_ret (results_ctt rfl _ _ gb190 27 #[.int .i64 (rd l0_1 (rd t192 (ji25))), .slice (some ⟨go31, 0, none⟩) t196.length co41] (0, 0) _ rfl (by (with_reducible repeat (first | refine blk_drewN ?_ _ | refine blk_drew ?_ | refine blk_alloc ?_ _)); refine blk_put (cs := #[.int .i64 (rd l0_1 (rd t192 (ji25))), .slice none 0 0]) ?_ 1 _ rfl; (with_reducible repeat (first | refine blk_drewN ?_ _ | refine blk_drew ?_ | refine blk_alloc ?_ _)); refine blk_put (cs := #[.int .i64 0, .slice none 0 0]) ?_ 0 _ rfl; exact bk_ BK190) Try.underlying27 rfl (by kernel_rfl)) rfl ?_
          exact ⟨_, by first | rfl | (simp [errW_none, errW_some] <;> rfl) | (simp only [← hji25]; first | rfl | (simp [errW_none, errW_some] <;> rfl)) | (simp [*, errW_none, errW_some] <;> rfl), by (with_reducible repeat (first | apply Kd.R_alloc | apply Kd.R_drewN | apply Kd.R_drew)); exact Kd.R_mono (Kd.R_far (p := ⟨gb190, 1, none⟩) (Kd.R_far (p := ⟨gb190, 0, none⟩) (Kd.R_types HO198.out BK190.out (by decide)) (fun _ hk => by first | exact hk.2 | grind) (.int .i64 (rd l0_1 (rd t192 (ji25))))) (fun _ hk => by first | exact hk.2 | grind) (.slice (some ⟨go31, 0, none⟩) t196.length co41)) (fun _ hk => by first | exact trivial | grind), bf_ HB⟩
         ·rw [if_neg c30] at H
          exact absurd H (by simp)
        ·rw [if_neg c29] at H
         exact absurd H (by simp)
       ·rw [if_neg c28] at H
        exact absurd H (by simp)
      ·rw [if_neg c27] at H
       exact absurd H (by simp)
     ·rw [if_neg c26] at H
      exact absurd H (by simp)

/-! ### impl_StorePut: function 14 -/
def impl_StorePut.l0 : Nat → List Int → Int → List Int → Int → Int → Int → List Int → List Int → Option (Int × List Int × List Int × Int × Int)
  | 0, _, _, _, _, _, _, _, _ => none
  | k + 1, x1, x8, x41, x42, x43, x217000, x217001, x217002 => if x43 < x42 then (if 0 ≤ x43 then (if x43 < (x41.length : Int) then (if 0 ≤ (wrap64 (16 * (rd x41 x43))) then (if (wrap64 (16 * (rd x41 x43))) ≤ (wrap64 (16 * (wrap64 ((rd x41 x43) + 1)))) then (if (wrap64 (16 * (wrap64 ((rd x41 x43) + 1)))) ≤ (x217002.length : Int) then ((some ((x217002.take ((wrap64 (16 * (wrap64 ((rd x41 x43) + 1)))) : Int).toNat).drop ((wrap64 (16 * (rd x41 x43))) : Int).toNat : List Int)).bind fun y221 => (if 0 ≤ (mn (x1.length : Int) (wrap64 (16 * x43))) then (if (mn (x1.length : Int) (wrap64 (16 * x43))) ≤ (x1.length : Int) then (impl_StorePut.l0 k x1 x8 x41 x42 (wrap64 (x43 + 1)) x217000 x217001 (x217002.take ((wrap64 (16 * (rd x41 x43))) : Int).toNat ++ ((x1.drop ((mn (x1.length : Int) (wrap64 (16 * x43))) : Int).toNat).take (min (x1.drop ((mn (x1.length : Int) (wrap64 (16 * x43))) : Int).toNat).length y221.length) ++ x217002.drop (((wrap64 (16 * (rd x41 x43))) : Int).toNat + min (x1.drop ((mn (x1.length : Int) (wrap64 (16 * x43))) : Int).toNat).length y221.length)))) else (none)) else (none))) else (none)) else (none)) else (none)) else (none)) else (none)) else (some (x217000, x217001, x217002, x8, 0))
def impl_StorePut.f (k : Nat) (a0_0 : Int) (l0_1 : List Int) (l0_2 : List Int) (l1 : List Int) : Option (Int × List Int × List Int × Int × Int) := (impl_StoreOk.f k a0_0 l0_1 l0_2).bind fun t205 => (if t205 = true then ((impl_SlabTake.f k a0_0 l0_1 (mx 1 (wrap64 (Int.tdiv (wrap64 ((wrap64 ((l1.length : Int) + 16)) - 1)) 16)))).bind fun bt206 => (if bt206.2.2.2 = 0 then ((slices_Clone_byte_byte.f l0_2).bind fun t213 => ((impl_Slab_chain.f k bt206.1 bt206.2.1 bt206.2.2.1).bind fun t217 => (impl_StorePut.l0 k l1 bt206.2.2.1 t217 (t217.length : Int) 0 bt206.1 bt206.2.1 t213))) else (some (0, ([] : List Int), ([] : List Int), (-1), bt206.2.2.2)))) else (some (0, ([] : List Int), ([] : List Int), (-1), 1)))
theorem impl_StorePut.mono_l : ∀ k, (∀ y0 y1 y2 y3 y4 y5 y6 y7, LeO (impl_StorePut.l0 k y0 y1 y2 y3 y4 y5 y6 y7) (impl_StorePut.l0 (k + 1) y0 y1 y2 y3 y4 y5 y6 y7))
 | 0 => fun _ _ _ _ _ _ _ _ r h => by simp [impl_StorePut.l0] at h
 | k + 1 => by
  have ih0 := impl_StorePut.mono_l k
  ·intro y0 y1 y2 y3 y4 y5 y6 y7
   unfold impl_StorePut.l0
   repeat' first
   | (with_reducible exact ih0 _ _ _ _ _ _ _ _)
   | (with_reducible exact impl_SlabTake.mono _ _ _ _)
   | (with_reducible exact impl_Slab_chain.mono _ _ _ _)
   | (with_reducible exact impl_StoreOk.mono _ _ _ _)
   | (with_reducible exact LeO.refl _)
   | (with_reducible exact LeO.none _)
   | (with_reducible refine LeO.ite ?_ ?_)
   | (with_reducible refine LeO.bind ?_ (fun _ => ?_))
   | exact ih0 _ _ _ _ _ _ _ _
   | exact impl_SlabTake.mono _ _ _ _
   | exact impl_Slab_chain.mono _ _ _ _
   | exact impl_StoreOk.mono _ _ _ _
   | exact LeO.none _
   | refine LeO.ite ?_ ?_
   | refine LeO.bind ?_ (fun _ => ?_)
theorem impl_StorePut.mono : ∀ a0 a1 a2 a3 k, LeO (impl_StorePut.f k a0 a1 a2 a3) (impl_StorePut.f (k + 1) a0 a1 a2 a3) := by
 intro a0 a1 a2 a3 k
 have ih0 := impl_StorePut.mono_l k
 unfold impl_StorePut.f
 repeat' first
   | (with_reducible exact ih0 _ _ _ _ _ _ _ _)
   | (with_reducible exact impl_SlabTake.mono _ _ _ _)
   | (with_reducible exact impl_Slab_chain.mono _ _ _ _)
   | (with_reducible exact impl_StoreOk.mono _ _ _ _)
   | (with_reducible exact LeO.refl _)
   | (with_reducible exact LeO.none _)
   | (with_reducible refine LeO.ite ?_ ?_)
   | (with_reducible refine LeO.bind ?_ (fun _ => ?_))
   | exact ih0 _ _ _ _ _ _ _ _
   | exact impl_SlabTake.mono _ _ _ _
   | exact impl_Slab_chain.mono _ _ _ _
   | exact impl_StoreOk.mono _ _ _ _
   | exact LeO.none _
   | refine LeO.ite ?_ ?_
   | refine LeO.bind ?_ (fun _ => ?_)
def impl_StorePut.T10 : Bool × List (List Nat × List Nat) := (true, [([], []), ([0], [0]), ([], []), ([2], [2]), ([], []), ([4], [4]), ([5], [5]), ([1, 3, 6], [1, 3, 6]), ([], []), ([], []), ([9], [9]), ([], []), ([11], [11]), ([10, 12], [10, 12]), ([8, 13], [8, 13]), ([7, 14], [7, 14])])
def impl_StorePut.B10 : List Nat := [0, 1, 0, 4, 0, 16, 48, 127, 0, 0, 512, 0, 2048, 7680, 16128, 32767]
theorem impl_StorePut.tab10 : rtab .any (opsOf Try.f14 10) = impl_StorePut.T10 := by kernel_rfl
theorem impl_StorePut.bits10 : waitsOk impl_StorePut.T10.2 impl_StorePut.B10 = true := by kernel_rfl
set_option maxHeartbeats 8000000 in
set_option maxRecDepth 100000 in
theorem impl_StorePut.calls (k : Nat) (a0_0 : Int) (A0_1 : Option Addr) (c0_1 : Nat) (l0_1 : List Int) (A0_2 : Option Addr) (c0_2 : Nat) (l0_2 : List Int) (A1 : Option Addr) (c1 : Nat) (l1 : List Int) (r1 : Int) (r2 : List Int) (r3 : List Int) (r4 : Int) (r5 : Int) (w : World) (hr0_1 : Kd.C (Kd.int .i64) w A0_1 l0_1.length l0_1) (hc0_1 : l0_1.length ≤ c0_1) (hr0_2 : Kd.C (Kd.int .u8) w A0_2 l0_2.length l0_2) (hc0_2 : l0_2.length ≤ c0_2) (hr1 : Kd.C (Kd.int .u8) w A1 l1.length l1) (hc1 : l1.length ≤ c1) (h : impl_StorePut.f k a0_0 l0_1 l0_2 l1 = some (r1, r2, r3, r4, r5)) :
  Calls Try.prog 14 #[.agg #[.int .i64 a0_0, .slice A0_1 l0_1.length c0_1, .slice A0_2 l0_2.length c0_2], .slice A1 l1.length c1] w fun e w' => ∃ v1_ v2_ : Value, e = .returned (.tuple #[.agg #[.int .i64 r1, v1_, v2_], .int .i64 r4, .int .i64 r5]) ∧ Kd.R (Kd.int .i64) 3 w' w.heap.size (fun _ => True) v1_ r2 ∧ Kd.R (Kd.int .u8) 5 w' w.heap.size (fun _ => True) v2_ r3 ∧ Below w.heap.size w w' := by
 have hu29 := Try.underlying29; have hu27 := Try.underlying27
 have HR0_1 := Aside0.mk hr0_1
 have HC0_1 := Aside0.mk hc0_1
 clear hr0_1 hc0_1
 have HR0_2 := Aside0.mk hr0_2
 have HC0_2 := Aside0.mk hc0_2
 clear hr0_2 hc0_2
 have HR1 := Aside0.mk hr1
 have HC1 := Aside0.mk hc1
 clear hr1 hc1; have HB := Aside0.mk (Below.refl w.heap.size w)
 have H : ((impl_StoreOk.f k a0_0 l0_1 l0_2).bind fun t205 => (if t205 = true then ((impl_SlabTake.f k a0_0 l0_1 (mx 1 (wrap64 (Int.tdiv (wrap64 ((wrap64 ((l1.length : Int) + 16)) - 1)) 16)))).bind fun bt206 => (if bt206.2.2.2 = 0 then ((slices_Clone_byte_byte.f l0_2).bind fun t213 => ((impl_Slab_chain.f k bt206.1 bt206.2.1 bt206.2.2.1).bind fun t217 => (impl_StorePut.l0 k l1 bt206.2.2.1 t217 (t217.length : Int) 0 bt206.1 bt206.2.1 t213))) else (some (0, ([] : List Int), ([] : List Int), (-1), bt206.2.2.2)))) else (some (0, ([] : List Int), ([] : List Int), (-1), 1)))) = some (r1, r2, r3, r4, r5) := h
 clear h
 replace H := Option.bind_eq_some_iff.mp H
 obtain ⟨t205, A30, H⟩ := H
 replace H : (if t205 = true then ((impl_SlabTake.f k a0_0 l0_1 (mx 1 (wrap64 (Int.tdiv (wrap64 ((wrap64 ((l1.length : Int) + 16)) - 1)) 16)))).bind fun bt206 => (if bt206.2.2.2 = 0 then ((slices_Clone_byte_byte.f l0_2).bind fun t213 => ((impl_Slab_chain.f k bt206.1 bt206.2.1 bt206.2.2.1).bind fun t217 => (impl_StorePut.l0 k l1 bt206.2.2.1 t217 (t217.length : Int) 0 bt206.1 bt206.2.1 t213))) else (some (0, ([] : List Int), ([] : List Int), (-1), bt206.2.2.2)))) else (some (0, ([] : List Int), ([] : List Int), (-1), 1))) = some (r1, r2, r3, r4, r5) := H
 have A3 := Aside0.mk A30
 clear A30
 by_cases c4 : t205 = true
 ·subst c4
  have H1 : ((impl_SlabTake.f k a0_0 l0_1 (mx 1 (wrap64 (Int.tdiv (wrap64 ((wrap64 ((l1.length : Int) + 16)) - 1)) 16)))).bind fun bt206 => (if bt206.2.2.2 = 0 then ((slices_Clone_byte_byte.f l0_2).bind fun t213 => ((impl_Slab_chain.f k bt206.1 bt206.2.1 bt206.2.2.1).bind fun t217 => (impl_StorePut.l0 k l1 bt206.2.2.1 t217 (t217.length : Int) 0 bt206.1 bt206.2.1 t213))) else (some (0, ([] : List Int), ([] : List Int), (-1), bt206.2.2.2)))) = some (r1, r2, r3, r4, r5) := by rw [if_pos rfl] at H; exact H
  clear H
  have H := H1
  clear H1
  obtain ⟨ji5, hji5⟩ : ∃ j_ : Int, (mx 1 (wrap64 (Int.tdiv (wrap64 ((wrap64 ((l1.length : Int) + 16)) - 1)) 16))) = j_ := ⟨_, rfl⟩
  replace H : ((impl_SlabTake.f k a0_0 l0_1 (ji5)).bind fun bt206 => (if bt206.2.2.2 = 0 then ((slices_Clone_byte_byte.f l0_2).bind fun t213 => ((impl_Slab_chain.f k bt206.1 bt206.2.1 bt206.2.2.1).bind fun t217 => (impl_StorePut.l0 k l1 bt206.2.2.1 t217 (t217.length : Int) 0 bt206.1 bt206.2.1 t213))) else (some (0, ([] : List Int), ([] : List Int), (-1), bt206.2.2.2)))) = some (r1, r2, r3, r4, r5) := by first | (rw [hji5] at H; exact H) | (simp only [hji5] at H ⊢; exact H)
  (try rw [hji5] at A3)
  (try (have hji5l : 1 ≤ ji5 := by (rw [← hji5]; unfold mx; (repeat' split) <;> omega)))
  (try (have hji5m : 0 ≤ ji5 := by omega))
  have hji5_ : (if 1 < (wrap64 (Int.tdiv (wrap64 ((wrap64 ((l1.length : Int) + 16)) - 1)) 16)) then (wrap64 (Int.tdiv (wrap64 ((wrap64 ((l1.length : Int) + 16)) - 1)) 16)) else 1) = ji5 := hji5
  replace H := Option.bind_eq_some_iff.mp H
  obtain ⟨⟨t206, t207, t210, t211⟩, A60, H⟩ := H
  replace H : (if t211 = 0 then ((slices_Clone_byte_byte.f l0_2).bind fun t213 => ((impl_Slab_chain.f k t206 t207 t210).bind fun t217 => (impl_StorePut.l0 k l1 t210 t217 (t217.length : Int) 0 t206 t207 t213))) else (some (0, ([] : List Int), ([] : List Int), (-1), t211))) = some (r1, r2, r3, r4, r5) := H
  have A6 := Aside0.mk A60
  clear A60
  by_cases c7 : t211 = 0
  ·rw [if_pos c7] at H
   have c7b0 : (t211 == 0) = true := beq_iff_eq.mpr c7
   have c7b1 : (t211 != 0) = false := bne_eq_false_iff_eq.mpr c7
   clear c7
   replace H := Option.bind_eq_some_iff.mp H
   obtain ⟨t213, A80, H⟩ := H
   replace H : ((impl_Slab_chain.f k t206 t207 t210).bind fun t217 => (impl_StorePut.l0 k l1 t210 t217 (t217.length : Int) 0 t206 t207 t213)) = some (r1, r2, r3, r4, r5) := H
   have A8 := Aside0.mk A80
   clear A80
   replace H := Option.bind_eq_some_iff.mp H
   obtain ⟨t217, A90, H⟩ := H
   replace H : (impl_StorePut.l0 k l1 t210 t217 (t217.length : Int) 0 t206 t207 t213) = some (r1, r2, r3, r4, r5) := H
   have A9 := Aside0.mk A90
   clear A90
   have H' := Aside0.mk H
   clear H
   go_enter Try.func14, Try.ntmps14
   try go_wp2_with (first | ((with_reducible refine gd_ 2 rfl ?_); refine bv_ 2 #[.int .i64 a0_0, .slice A0_1 l0_1.length c0_1, .slice A0_2 l0_2.length c0_2] 29 ?_; intro gb203 hg w10 hbox hb; have BK203 := Aside0.mk (hbox); have GW203 := gw_ HB hg; have GE203 := gw_ HB hg; replace HB := Aside0.mk (below_step (be_ HB) hb); clear hb hbox hg) | ((with_reducible refine gd_ 4 rfl ?_); refine bv_ 4 #[.int .i64 0, .slice none 0 0, .slice none 0 0] 29 ?_; intro gb204 hg w11 hbox hb; have BK204 := Aside0.mk (hbox); have GW204 := gw_ HB hg; have GE204 := gw_ HB hg; replace HB := Aside0.mk (below_step (bf_ HB) hb); have NB203_204 := nl_ BK203 hg; have NB204_203 := ng_ BK203 hg; replace BK203 := bb_ BK203 hb; clear hb hbox hg; have hnb12 := NB203_204.out; have hnc12 := NB204_203.out; obtain ⟨hcz13_0, hcz13_1, hcz13_2, hfz13_0, hfz13_1, hfz13_2⟩ := bz3_ BK203) | ((with_reducible refine gc_ 47 rfl ?_); refine gl_ 14 Try.func47 #[.agg #[.int .i64 a0_0, .slice A0_1 l0_1.length c0_1, .slice A0_2 l0_2.length c0_2]] ?_; (with_reducible refine (impl_StoreOk.calls k a0_0 _ _ l0_1 _ _ l0_2 true _ ?side1 ?side2 ?side3 ?side4 A3.out).mono ?_); (case side1 => repeat (first | exact (Kd.C_below HR0_1.out HB.out) | (with_reducible refine Kd.C_alloc ?_ _) | (with_reducible refine Kd.C_drewN ?_ _) | (with_reducible refine Kd.C_drew ?_))); (case side2 => exact HC0_1.out); (case side3 => repeat (first | exact (Kd.C_below HR0_2.out HB.out) | (with_reducible refine Kd.C_alloc ?_ _) | (with_reducible refine Kd.C_drewN ?_ _) | (with_reducible refine Kd.C_drew ?_))); (case side4 => exact HC0_2.out); rintro e w14 ⟨rfl, hb⟩; refine ⟨_, rfl, ?_⟩; replace BK203 := bb_ BK203 hb; replace BK204 := bb_ BK204 hb; replace HB := Aside0.mk (below_step (bf_ HB) hb); (try clear hb); (try clear hb2); (try clear hk); (try clear hi); obtain ⟨hcz15_0, hcz15_1, hcz15_2, hfz15_0, hfz15_1, hfz15_2⟩ := bz3_ BK203) | ((with_reducible refine gc_ 50 rfl ?_); refine goesL_ (some 26) rfl rfl Try.func50 (by kernel_rfl) rfl #[.agg #[.int .i64 a0_0, .slice A0_1 l0_1.length c0_1], .int .i64 ji5] rfl (by (try simp only [List.map_toArray, List.map_cons, List.map_nil]); first | done | (simp only [hji5]; rfl) | rfl | (simp only [List.length_drop, List.length_take]; rfl)) ?_; (with_reducible refine (impl_SlabTake.calls k a0_0 _ _ l0_1 ji5 t206 t207 t210 t211 _ ?side1 ?side2 A6.out).mono ?_); (case side1 => repeat (first | exact (Kd.C_below HR0_1.out HB.out) | (with_reducible refine Kd.C_alloc ?_ _) | (with_reducible refine Kd.C_drewN ?_ _) | (with_reducible refine Kd.C_drew ?_))); (case side2 => exact HC0_1.out); rintro e w16 ⟨v208, rfl, ho0, hb⟩; refine ⟨_, rfl, ?_⟩; have HO209 := Aside0.mk (Kd.R_lower ho0 (below_size (bf_ HB))); replace BK203 := bb_ BK203 hb; replace BK204 := bb_ BK204 hb; replace HB := Aside0.mk (below_step (bf_ HB) hb); (try clear hb); (try clear hb2); (try clear hk); (try clear hi); (try clear ho0)) | ((with_reducible refine gd_ 7 rfl ?_); refine bv_ 7 #[.int .i64 0, .slice none 0 0] 27 ?_; intro gb212 hg w17 hbox hb; replace HO209 := Aside0.mk (Kd.R_below (kr_ HO209) hb); have BK212 := Aside0.mk (hbox); have GW212 := gw_ HB hg; have GE212 := gw_ HB hg; replace HB := Aside0.mk (below_step (bf_ HB) hb); have NB203_212 := nl_ BK203 hg; have NB212_203 := ng_ BK203 hg; replace BK203 := bb_ BK203 hb; have NB204_212 := nl_ BK204 hg; have NB212_204 := ng_ BK204 hg; replace BK204 := bb_ BK204 hb; clear hb hbox hg; have hnb18 := NB212_203.out; have hnc18 := NB203_212.out; have hnb19 := NB212_204.out; have hnc19 := NB204_212.out; obtain ⟨hcz20_0, hcz20_1, hfz20_0, hfz20_1⟩ := bz2_ BK212; obtain ⟨Ao21, co21, eo21⟩ := Kd.R_slice HO209.out; subst eo21))
   generalize hW_ : ((w17.setCell ⟨gb212, 0, none⟩ (.int .i64 t206)).setCell ⟨gb212, 1, none⟩ (.slice Ao21 t207.length co21)) = w22
   replace HO209 : Aside0 (Kd.R (Kd.int .i64) 3 w22 w.heap.size (fun _ => True) (.slice Ao21 t207.length co21) t207) := ⟨by cases hW_; (with_reducible repeat (first | apply Kd.R_alloc | apply Kd.R_drewN | apply Kd.R_drew)); exact Kd.R_mono (Kd.R_far (p := ⟨gb212, 1, none⟩) (Kd.R_far (p := ⟨gb212, 0, none⟩) (Kd.R_types HO209.out BK212.out (by decide)) (fun _ hk => by first | exact hk.2 | grind) (.int .i64 t206)) (fun _ hk => by first | exact hk.2 | grind) (.slice Ao21 t207.length co21)) (fun _ hk => by first | exact trivial | grind)⟩
   replace BK203 := fc2_ hW_ BK203 NB203_212
   replace BK204 := fc2_ hW_ BK204 NB204_212
   replace BK212 : Aside0 (w22.heap[gb212]? = some (.cells #[.int .i64 t206, .slice Ao21 t207.length co21] 27 (0, 0))) := pc2_ hW_ BK212
   replace HB : Aside0 (Below w.heap.size w w22) := ⟨by cases hW_; exact bf_ HB⟩
   clear hW_; replace HO209 := Aside0.mk (Kd.R_drew HO209.out); replace BK203 := Aside0.mk (blk_drew BK203.out); replace BK204 := Aside0.mk (blk_drew BK204.out); replace BK212 := Aside0.mk (blk_drew BK212.out); replace HB := Aside0.mk (below_drew1 HB.out)
   refine start_ (n := 7) (S := fun w' => cw_ w' gb212 0 (.int .i64 t206) ∧ cw_ w' gb212 1 (.slice Ao21 t207.length co21) ∧ cw_ w' gb203 0 (.int .i64 a0_0) ∧ cw_ w' gb203 1 (.slice A0_1 l0_1.length c0_1) ∧ cw_ w' gb203 2 (.slice A0_2 l0_2.length c0_2)) (ds := []) (bs 7 0) (by kernel_rfl) rfl rfl ⟨bt_ BK212 0, bt_ BK212 1, bt_ BK203 0, bt_ BK203 1, bt_ BK203 2⟩ (fun hHeld => ?_)
   generalize w22.drew = w23 at HO209 BK203 BK204 BK212 HB hHeld ⊢
   refine ps0_ 1 35 #[oF,oT,oF,oF,oF,oF,oF] ?_
   refine tk0_ 0 34 (bs 7 2) hHeld ?_
   refine tk0_ 2 36 (bs 7 3) hHeld ?_
   refine join_ (σ := Value × Nat) 1 (bs 7 6) (fun s_ => [(37, s_.1), (10, .pointer (some ⟨s_.2, 0, none⟩)), (38, .agg #[.int .i64 t206, .slice Ao21 t207.length co21, s_.1])]) (fun s_ w' => (w'.cell? ⟨gb212, 0, none⟩ = some (.int .i64 t206) ∧ w'.cell? ⟨gb212, 1, none⟩ = some (.slice Ao21 t207.length co21) ∧ w'.cell? ⟨gb203, 0, none⟩ = some (.int .i64 a0_0) ∧ w'.cell? ⟨gb203, 1, none⟩ = some (.slice A0_1 l0_1.length c0_1) ∧ w'.cell? ⟨gb203, 2, none⟩ = some (.slice A0_2 l0_2.length c0_2)) ∧ (Kd.R (Kd.int .i64) 3 w' w.heap.size (fun _ => True) (.slice Ao21 t207.length co21) t207) ∧ (Kd.R (Kd.int .u8) 5 w' w.heap.size (fun _ => True) s_.1 t213) ∧ (w'.heap[gb203]? = some (.cells #[.int .i64 a0_0, .slice A0_1 l0_1.length c0_1, .slice A0_2 l0_2.length c0_2] 29 (0, 0))) ∧ (w'.heap[gb204]? = some (.cells #[.int .i64 0, .slice none 0 0, .slice none 0 0] 29 (0, 0))) ∧ (w'.heap[gb212]? = some (.cells #[.int .i64 t206, .slice Ao21 t207.length co21] 27 (0, 0))) ∧ (w'.heap[s_.2]? = some (.cells #[.int .i64 0, .slice none 0 0, .slice none 0 0] 29 (0, 0))) ∧ (w.heap.size ≤ s_.2) ∧ (w.heap.size ≤ s_.2) ∧ (gb203 ≠ s_.2) ∧ (s_.2 ≠ gb203) ∧ (gb204 ≠ s_.2) ∧ (s_.2 ≠ gb204) ∧ (gb212 ≠ s_.2) ∧ (s_.2 ≠ gb212) ∧ (Below w.heap.size w w')) ?_ ?_
   rotate_left
   ·intro hCont
    refine two_ (i := 3) (j := 5) (Ni := some 37) (Nj := some 10) (bs 7 4) #[oT,oT,oT,oF,oF,oT,oF] rfl rfl rfl rfl (by kernel_rfl) (by decide) (by decide) (fun K hK => ?_) (fun K hK => ?_)
    ·skip
     refine gs_ Try.func49 #[.slice A0_2 l0_2.length c0_2] ?_
     with_reducible refine (slices_Clone_byte_byte.calls _ _ l0_2 t213 _ ?side1 ?side2 A8.out).mono ?_
     (case side1 => repeat (first | exact (Kd.C_below HR0_2.out HB.out) | (with_reducible refine Kd.C_alloc ?_ _) | (with_reducible refine Kd.C_drewN ?_ _) | (with_reducible refine Kd.C_drew ?_)))
     (case side2 => exact HC0_2.out)
     rintro e w24 ⟨v214, rfl, ho0, hb⟩
     refine ⟨_, rfl, ?_⟩
     replace HO209 := Aside0.mk (Kd.R_below (kr_ HO209) hb); have HO215 := Aside0.mk (Kd.R_lower ho0 (below_size (bf_ HB))); replace BK203 := bb_ BK203 hb; replace BK204 := bb_ BK204 hb; replace BK212 := bb_ BK212 hb; replace HB := Aside0.mk (below_step (bf_ HB) hb); (try clear hb); (try clear hb2); (try clear hk); (try clear hi); (try clear ho0)
     obtain ⟨Ao25, co25, eo25⟩ := Kd.R_slice HO215.out
     (first | subst eo25 | (injection eo25 with f1_ f2_ f3_; have f4_ := f1_.symm; have f5_ := f3_.symm; clear f1_ f2_ f3_; subst f4_; subst f5_))
     refine hK.out _ _ ⟨bt_ BK212 0, bt_ BK212 1, bt_ BK203 0, bt_ BK203 1, bt_ BK203 2⟩ (fun hHeld => ?_)
     clear hK K
     refine norm_ (a' := ?_) ?_ ?_
     rotate_left
     ·show Act.put _ (some 37) _ = _
      simp only [Act.put, ls0_, ls1_, ls2_, i64_w, i32_w]
      rfl
     refine ps0_ 4 38 (bs 7 5) ?_
     refine on0_ 5 (some 10) (bs 7 6) (fun K hK => ?_)
     refine box_step ?hg (N := 10) ?hd (cs := #[.int .i64 0, .slice none 0 0, .slice none 0 0]) (t := 29) ?hr ?_; (case hd => rfl); (case hg => rfl); (case hr => first | (go_simp; done) | (go_simp; rfl))
     intro gb216 hg w26 hbox hb
     replace HO209 := Aside0.mk (Kd.R_below (kr_ HO209) hb); replace HO215 := Aside0.mk (Kd.R_below (kr_ HO215) hb); have BK216 := Aside0.mk (hbox); have GW216 := gw_ HB hg; have GE216 := gw_ HB hg; replace HB := Aside0.mk (below_step (bf_ HB) hb); have NB203_216 := nl_ BK203 hg; have NB216_203 := ng_ BK203 hg; replace BK203 := bb_ BK203 hb; have NB204_216 := nl_ BK204 hg; have NB216_204 := ng_ BK204 hg; replace BK204 := bb_ BK204 hb; have NB212_216 := nl_ BK212 hg; have NB216_212 := ng_ BK212 hg; replace BK212 := bb_ BK212 hb; clear hb hbox hg
     refine hK.out _ _ ⟨bt_ BK212 0, bt_ BK212 1, bt_ BK203 0, bt_ BK203 1, bt_ BK203 2⟩ (fun hHeld => ?_)
     clear hK K
     refine norm_ (a' := ?_) ?_ ?_
     rotate_left
     ·show Act.put _ (some 10) _ = _
      simp only [Act.put, ls0_, ls1_, ls2_, i64_w, i32_w]
      rfl
     exact norm_ (by simp only [putAll, Act.put, ls0_, ls1_, ls2_]) (hCont (.slice Ao25 t213.length co25, gb216) _ ⟨hHeld, (kr_ HO209), (kr_ HO215), (bk_ BK203), (bk_ BK204), (bk_ BK212), (bk_ BK216), GW216.out, GE216.out, NB203_216.out, NB216_203.out, NB204_216.out, NB216_204.out, NB212_216.out, NB216_212.out, (bf_ HB)⟩)
    ·skip
     refine box_step ?hg (N := 10) ?hd (cs := #[.int .i64 0, .slice none 0 0, .slice none 0 0]) (t := 29) ?hr ?_; (case hd => rfl); (case hg => rfl); (case hr => first | (go_simp; done) | (go_simp; rfl))
     intro gb216 hg w24 hbox hb
     replace HO209 := Aside0.mk (Kd.R_below (kr_ HO209) hb); have BK216 := Aside0.mk (hbox); have GW216 := gw_ HB hg; have GE216 := gw_ HB hg; replace HB := Aside0.mk (below_step (bf_ HB) hb); have NB203_216 := nl_ BK203 hg; have NB216_203 := ng_ BK203 hg; replace BK203 := bb_ BK203 hb; have NB204_216 := nl_ BK204 hg; have NB216_204 := ng_ BK204 hg; replace BK204 := bb_ BK204 hb; have NB212_216 := nl_ BK212 hg; have NB216_212 := ng_ BK212 hg; replace BK212 := bb_ BK212 hb; clear hb hbox hg
     refine hK.out _ _ ⟨bt_ BK212 0, bt_ BK212 1, bt_ BK203 0, bt_ BK203 1, bt_ BK203 2⟩ (fun hHeld => ?_)
     clear hK K
     refine norm_ (a' := ?_) ?_ ?_
     rotate_left
     ·show Act.put _ (some 10) _ = _
      simp only [Act.put, ls0_, ls1_, ls2_, i64_w, i32_w]
      rfl
     refine on0_ 3 (some 37) #[oT,oT,oT,oT,oF,oT,oF] (fun K hK => ?_)
     refine gs_ Try.func49 #[.slice A0_2 l0_2.length c0_2] ?_
     with_reducible refine (slices_Clone_byte_byte.calls _ _ l0_2 t213 _ ?side1 ?side2 A8.out).mono ?_
     (case side1 => repeat (first | exact (Kd.C_below HR0_2.out HB.out) | (with_reducible refine Kd.C_alloc ?_ _) | (with_reducible refine Kd.C_drewN ?_ _) | (with_reducible refine Kd.C_drew ?_)))
     (case side2 => exact HC0_2.out)
     rintro e w25 ⟨v214, rfl, ho0, hb⟩
     refine ⟨_, rfl, ?_⟩
     replace HO209 := Aside0.mk (Kd.R_below (kr_ HO209) hb); have HO215 := Aside0.mk (Kd.R_lower ho0 (below_size (bf_ HB))); replace BK203 := bb_ BK203 hb; replace BK204 := bb_ BK204 hb; replace BK212 := bb_ BK212 hb; replace BK216 := bb_ BK216 hb; replace HB := Aside0.mk (below_step (bf_ HB) hb); (try clear hb); (try clear hb2); (try clear hk); (try clear hi); (try clear ho0)
     obtain ⟨Ao26, co26, eo26⟩ := Kd.R_slice HO215.out
     (first | subst eo26 | (injection eo26 with f1_ f2_ f3_; have f4_ := f1_.symm; have f5_ := f3_.symm; clear f1_ f2_ f3_; subst f4_; subst f5_))
     refine hK.out _ _ ⟨bt_ BK212 0, bt_ BK212 1, bt_ BK203 0, bt_ BK203 1, bt_ BK203 2⟩ (fun hHeld => ?_)
     clear hK K
     refine norm_ (a' := ?_) ?_ ?_
     rotate_left
     ·show Act.put _ (some 37) _ = _
      simp only [Act.put, ls0_, ls1_, ls2_, i64_w, i32_w]
      rfl
     refine ps0_ 4 38 (bs 7 6) ?_
     exact norm_ (by simp only [putAll, Act.put, ls0_, ls1_, ls2_]) (hCont (.slice Ao26 t213.length co26, gb216) _ ⟨hHeld, (kr_ HO209), (kr_ HO215), (bk_ BK203), (bk_ BK204), (bk_ BK212), (bk_ BK216), GW216.out, GE216.out, NB203_216.out, NB216_203.out, NB204_216.out, NB216_204.out, NB212_216.out, NB216_212.out, (bf_ HB)⟩)
   rintro ⟨v214, gb216⟩ w27 ⟨hS_, h0_, h1_, h2_, h3_, h4_, h5_, h6_, h7_, h8_, h9_, h10_, h11_, h12_, h13_, h14_⟩
   have n0_ : Aside0 (Kd.R (Kd.int .i64) 3 w27 w.heap.size (fun _ => True) (.slice Ao21 t207.length co21) t207) := ⟨h0_⟩
   have n1_ : Aside0 (Kd.R (Kd.int .u8) 5 w27 w.heap.size (fun _ => True) v214 t213) := ⟨h1_⟩
   have n2_ : Aside0 (w27.heap[gb203]? = some (.cells #[.int .i64 a0_0, .slice A0_1 l0_1.length c0_1, .slice A0_2 l0_2.length c0_2] 29 (0, 0))) := ⟨h2_⟩
   have n3_ : Aside0 (w27.heap[gb204]? = some (.cells #[.int .i64 0, .slice none 0 0, .slice none 0 0] 29 (0, 0))) := ⟨h3_⟩
   have n4_ : Aside0 (w27.heap[gb212]? = some (.cells #[.int .i64 t206, .slice Ao21 t207.length co21] 27 (0, 0))) := ⟨h4_⟩
   have n5_ : Aside0 (w27.heap[gb216]? = some (.cells #[.int .i64 0, .slice none 0 0, .slice none 0 0] 29 (0, 0))) := ⟨h5_⟩
   have n6_ : Aside0 (w.heap.size ≤ gb216) := ⟨h6_⟩
   have n7_ : Aside0 (w.heap.size ≤ gb216) := ⟨h7_⟩
   have n8_ : Aside0 (gb203 ≠ gb216) := ⟨h8_⟩
   have n9_ : Aside0 (gb216 ≠ gb203) := ⟨h9_⟩
   have n10_ : Aside0 (gb204 ≠ gb216) := ⟨h10_⟩
   have n11_ : Aside0 (gb216 ≠ gb204) := ⟨h11_⟩
   have n12_ : Aside0 (gb212 ≠ gb216) := ⟨h12_⟩
   have n13_ : Aside0 (gb216 ≠ gb212) := ⟨h13_⟩
   have n14_ : Aside0 (Below w.heap.size w w27) := ⟨h14_⟩
   clear HO209 BK203 BK204 BK212 HB h0_ h1_ h2_ h3_ h4_ h5_ h6_ h7_ h8_ h9_ h10_ h11_ h12_ h13_ h14_; have HO209 := n0_; have HO215 := n1_; have BK203 := n2_; have BK204 := n3_; have BK212 := n4_; have BK216 := n5_; have GW216 := n6_; have GE216 := n7_; have NB203_216 := n8_; have NB216_203 := n9_; have NB204_216 := n10_; have NB216_204 := n11_; have NB212_216 := n12_; have NB216_212 := n13_; have HB := n14_; clear n0_ n1_ n2_ n3_ n4_ n5_ n6_ n7_ n8_ n9_ n10_ n11_ n12_ n13_ n14_
   have hHeld : w27.cell? ⟨gb212, 0, none⟩ = some (.int .i64 t206) ∧ w27.cell? ⟨gb212, 1, none⟩ = some (.slice Ao21 t207.length co21) ∧ w27.cell? ⟨gb203, 0, none⟩ = some (.int .i64 a0_0) ∧ w27.cell? ⟨gb203, 1, none⟩ = some (.slice A0_1 l0_1.length c0_1) ∧ w27.cell? ⟨gb203, 2, none⟩ = some (.slice A0_2 l0_2.length c0_2) := hS_
   obtain ⟨Ao28, co28, eo28⟩ := Kd.R_slice HO215.out
   (first | subst eo28 | (injection eo28 with f1_ f2_ f3_; have f4_ := f1_.symm; have f5_ := f3_.symm; clear f1_ f2_ f3_; subst f4_; subst f5_))
   refine norm_ (a' := ?_) ?_ ?_
   rotate_left
   ·simp only [putAll, Act.put, ls0_, ls1_, ls2_]
    rfl
   refine on0_ 6 none (bs 7 7) (fun K hK => ?_)
   have hs29 := bc_ BK216 0 (.int .i64 0) rfl; have hfs29 := blk_frozen BK216.out 0; have hns29_0 := NB203_216.out; have hns29_1 := NB204_216.out; have hns29_2 := NB212_216.out; have hms29_0 := NB216_203.out; have hms29_1 := NB216_204.out; have hms29_2 := NB216_212.out; have hs30 := bc_ BK216 1 (.slice none 0 0) rfl; have hfs30 := blk_frozen BK216.out 1; have hns30_0 := NB203_216.out; have hns30_1 := NB204_216.out; have hns30_2 := NB212_216.out; have hms30_0 := NB216_203.out; have hms30_1 := NB216_204.out; have hms30_2 := NB216_212.out; have hs31 := bc_ BK216 2 (.slice none 0 0) rfl; have hfs31 := blk_frozen BK216.out 2; have hns31_0 := NB203_216.out; have hns31_1 := NB204_216.out; have hns31_2 := NB212_216.out; have hms31_0 := NB216_203.out; have hms31_1 := NB216_204.out; have hms31_2 := NB216_212.out
   refine skip_ (w1 := ?_) (by rfl) rfl ?_ ?_
   rotate_left
   ·go_simp
    rfl
   refine hK.out _ _ ⟨(cf3_ NB212_216.out hHeld.1), (cf3_ NB212_216.out hHeld.2.1), (cf3_ NB203_216.out hHeld.2.2.1), (cf3_ NB203_216.out hHeld.2.2.2.1), (cf3_ NB203_216.out hHeld.2.2.2.2)⟩ (fun hHeld => ?_)
   clear hK K
   refine done_ (by kernel_rfl) ?_
   have hnb32 := NB212_216.out; have hnc32 := NB216_212.out; obtain ⟨hcz33_0, hcz33_1, hfz33_0, hfz33_1⟩ := bz2_ BK212
   try go_wp2_with (first | ((with_reducible refine gc_ 51 rfl ?_); refine gl_ 41 Try.func51 #[.agg #[.int .i64 t206, .slice Ao21 t207.length co21], .int .i64 t210] ?_; (with_reducible refine (impl_Slab_chain.calls k t206 _ _ t207 t210 t217 _ ?side1 ?side2 A9.out).mono ?_); (case side1 => refine (Kd.R_reads' (e := 3) (base := w.heap.size) (ok := fun k_ => True) (n := t207.length) (c := co21) ?_).2.2; exact (by (with_reducible repeat (first | apply Kd.R_alloc | apply Kd.R_drewN | apply Kd.R_drew)); exact (rf3_ HO209 BK216 (.int .i64 t206) (.slice Ao21 t207.length co21) (.slice Ao28 t213.length co28)))); (case side2 => exact (Kd.R_reads' HO209.out).2.1); rintro e w34 ⟨v218, rfl, ho0, hb⟩; refine ⟨_, rfl, ?_⟩; replace HO215 := Aside0.mk (Kd.R_below (by (with_reducible repeat (first | apply Kd.R_alloc | apply Kd.R_drewN | apply Kd.R_drew)); exact (rf3_ HO215 BK216 (.int .i64 t206) (.slice Ao21 t207.length co21) (.slice Ao28 t213.length co28))) hb); have HO219 := Aside0.mk (Kd.R_lower (Kd.R_new' ho0 (Kd.R_lt (by (with_reducible repeat (first | apply Kd.R_alloc | apply Kd.R_drewN | apply Kd.R_drew)); exact (rf3_ HO209 BK216 (.int .i64 t206) (.slice Ao21 t207.length co21) (.slice Ao28 t213.length co28))))) (below_size (bf_ HB))); replace HO209 := Aside0.mk (Kd.R_elder' (by (with_reducible repeat (first | apply Kd.R_alloc | apply Kd.R_drewN | apply Kd.R_drew)); exact (rf3_ HO209 BK216 (.int .i64 t206) (.slice Ao21 t207.length co21) (.slice Ao28 t213.length co28))) (Kd.R_base ho0) hb); replace BK203 := bm_ BK203 hb; replace BK204 := bm_ BK204 hb; replace BK212 := bm_ BK212 hb; replace BK216 := Aside0.mk (blk_below (g := gb216) (o := .cells #[.int .i64 t206, .slice Ao21 t207.length co21, .slice Ao28 t213.length co28] 29 (0, 0)) (by (with_reducible repeat (first | refine blk_drewN ?_ _ | refine blk_drew ?_ | refine blk_alloc ?_ _)); refine blk_put (cs := #[.int .i64 t206, .slice Ao21 t207.length co21, .slice none 0 0]) ?_ 2 _ rfl; (with_reducible repeat (first | refine blk_drewN ?_ _ | refine blk_drew ?_ | refine blk_alloc ?_ _)); refine blk_put (cs := #[.int .i64 t206, .slice none 0 0, .slice none 0 0]) ?_ 1 _ rfl; (with_reducible repeat (first | refine blk_drewN ?_ _ | refine blk_drew ?_ | refine blk_alloc ?_ _)); refine blk_put (cs := #[.int .i64 0, .slice none 0 0, .slice none 0 0]) ?_ 0 _ rfl; exact bk_ BK216) hb); replace HB := Aside0.mk (below_step (bf_ HB) hb); (try clear hb); (try clear hb2); (try clear hk); (try clear hi); (try clear ho0); obtain ⟨Ao35, co35, eo35⟩ := Kd.R_slice HO219.out; subst eo35))
   go_loopg [43] k (fun kq v43 w' => ∃ (x43_1 : Int) (x217002_1 : List Int) (u217002 : Value), v43 = .int .i64 x43_1 ∧ Aside0 (impl_StorePut.l0 kq l1 t210 t217 (t217.length : Int) x43_1 t206 t207 x217002_1 = some (r1, r2, r3, r4, r5)) ∧ Aside0 (kq ≤ k) ∧ Aside0 (Kd.R (Kd.int .i64) 3 w' w.heap.size (fun k_ => some k_ ≠ ((.slice Ao21 t207.length co21) : Value).ownBlock ∧ some k_ ≠ ((.slice Ao21 t207.length co21) : Value).ownBlock) (.slice Ao35 t217.length co35) t217) ∧ Aside0 (Kd.R (Kd.int .i64) 3 w' w.heap.size (fun k_ => some k_ ≠ ((.slice Ao35 t217.length co35) : Value).ownBlock) (.slice Ao21 t207.length co21) t207) ∧ Aside0 (Kd.R (Kd.int .i64) 3 w' w.heap.size (fun k_ => some k_ ≠ ((.slice Ao35 t217.length co35) : Value).ownBlock) (.slice Ao21 t207.length co21) t207) ∧ Aside0 (Kd.R (Kd.int .u8) 5 w' w.heap.size (fun _ => True) u217002 x217002_1) ∧ Aside0 (w'.heap[gb203]? = some (.cells #[.int .i64 a0_0, (.slice A0_1 l0_1.length c0_1), (.slice A0_2 l0_2.length c0_2)] 29 (0, 0))) ∧ Aside0 (w'.heap[gb204]? = some (.cells #[.int .i64 0, (.slice none 0 0), (.slice none 0 0)] 29 (0, 0))) ∧ Aside0 (w'.heap[gb212]? = some (.cells #[.int .i64 t206, (.slice Ao21 t207.length co21)] 27 (0, 0))) ∧ Aside0 (w'.heap[gb216]? = some (.cells #[.int .i64 t206, (.slice Ao21 t207.length co21), u217002] 29 (0, 0))) ∧ Aside0 (Below w.heap.size w w'))
   case atStart => exact ⟨(0), (t213), (.slice Ao28 t213.length co28), (by first | rfl | (simp; done) | (simp [*]; done)), H', ⟨Nat.le_refl _⟩, ⟨by (with_reducible repeat (first | apply Kd.R_alloc | apply Kd.R_drewN | apply Kd.R_drew)); exact Kd.R_mono HO219.out (fun _ hk => by first | exact ⟨hk.2, hk.2⟩ | grind)⟩, ⟨by (with_reducible repeat (first | apply Kd.R_alloc | apply Kd.R_drewN | apply Kd.R_drew)); exact Kd.R_mono HO209.out (fun _ hk => by first | exact hk.2 | grind)⟩, ⟨by (with_reducible repeat (first | apply Kd.R_alloc | apply Kd.R_drewN | apply Kd.R_drew)); exact Kd.R_mono HO209.out (fun _ hk => by first | exact hk.2 | grind)⟩, ⟨kr_ HO215⟩, ⟨bk_ BK203⟩, ⟨bk_ BK204⟩, ⟨bk_ BK212⟩, ⟨bk_ BK216⟩, ⟨bf_ HB⟩⟩
   case round =>
    clear H'
    (try clear c1); (try clear p2); (try clear c3); (try clear c4); (try clear c5); (try clear p6); (try clear c7); (try clear c7b0); (try clear c7b1); (try clear c12); (try clear c14); (try clear c18); (try clear c19); (try clear c32); (try clear hcz13_0 hcz13_1 hcz13_2 hfz13_0 hfz13_1 hfz13_2); (try clear hcz15_0 hcz15_1 hcz15_2 hfz15_0 hfz15_1 hfz15_2); (try clear hcz20_0 hcz20_1 hfz20_0 hfz20_1); (try clear hcz33_0 hcz33_1 hfz33_0 hfz33_1)
    obtain ⟨x43_1, x217002_1, u217002, rfl, HA, HK1, HO_41, HO_213001, HO_217001, HO_217002, BK203, BK204, BK212, BK216, HB⟩ := hrel
    cases gk with
    | zero => exact absurd HA.out (by simp [impl_StorePut.l0])
    | succ k1 =>
     have H := HA.out
     clear HA
     simp only [impl_StorePut.l0] at H
     by_cases c36 : x43_1 < (t217.length : Int)
     ·rw [if_pos c36] at H
      have c36b0 : decide (x43_1 < (t217.length : Int)) = true := decide_eq_true c36
      clear c36
      by_cases c37 : 0 ≤ x43_1
      ·rw [if_pos c37] at H
       have c37b0 : decide (0 ≤ x43_1) = true := decide_eq_true c37
       clear c37
       by_cases c38 : x43_1 < (t217.length : Int)
       ·rw [if_pos c38] at H
        have c38b0 : decide (x43_1 < (t217.length : Int)) = true := decide_eq_true c38
        clear c38
        obtain ⟨ji39, hji39⟩ : ∃ j_ : Int, (wrap64 (16 * (rd t217 x43_1))) = j_ := ⟨_, rfl⟩
        replace H : (if 0 ≤ (ji39) then (if (ji39) ≤ (wrap64 (16 * (wrap64 ((rd t217 x43_1) + 1)))) then (if (wrap64 (16 * (wrap64 ((rd t217 x43_1) + 1)))) ≤ (x217002_1.length : Int) then ((some ((x217002_1.take ((wrap64 (16 * (wrap64 ((rd t217 x43_1) + 1)))) : Int).toNat).drop ((ji39) : Int).toNat : List Int)).bind fun y221 => (if 0 ≤ (mn (l1.length : Int) (wrap64 (16 * x43_1))) then (if (mn (l1.length : Int) (wrap64 (16 * x43_1))) ≤ (l1.length : Int) then (impl_StorePut.l0 k1 l1 t210 t217 (t217.length : Int) (wrap64 (x43_1 + 1)) t206 t207 (x217002_1.take ((ji39) : Int).toNat ++ ((l1.drop ((mn (l1.length : Int) (wrap64 (16 * x43_1))) : Int).toNat).take (min (l1.drop ((mn (l1.length : Int) (wrap64 (16 * x43_1))) : Int).toNat).length y221.length) ++ x217002_1.drop (((ji39) : Int).toNat + min (l1.drop ((mn (l1.length : Int) (wrap64 (16 * x43_1))) : Int).toNat).length y221.length)))) else (none)) else (none))) else (none)) else (none)) else (none)) = some (r1, r2, r3, r4, r5) := by first | (rw [hji39] at H; exact H) | (simp only [hji39] at H ⊢; exact H)
        have hji39w : (IntKind.i64.wrap (16 * (rd t217 x43_1))) = ji39 := (i64_w _).trans hji39
        by_cases c40 : 0 ≤ (ji39)
        ·rw [if_pos c40] at H
         have c40b0 := eq_true c40
         have c40b1 : decide (0 ≤ (ji39)) = true := decide_eq_true c40
         clear c40
         by_cases c41 : (ji39) ≤ (wrap64 (16 * (wrap64 ((rd t217 x43_1) + 1))))
         ·rw [if_pos c41] at H
          have c41b0 := eq_true c41
          have c41b1 : decide ((ji39) ≤ (wrap64 (16 * (wrap64 ((rd t217 x43_1) + 1))))) = true := decide_eq_true c41
          by_cases c42 : (wrap64 (16 * (wrap64 ((rd t217 x43_1) + 1)))) ≤ (x217002_1.length : Int)
          ·rw [if_pos c42] at H
           have c42b0 := eq_true c42
           have c42b1 : decide ((wrap64 (16 * (wrap64 ((rd t217 x43_1) + 1)))) ≤ (x217002_1.length : Int)) = true := decide_eq_true c42
           obtain ⟨y221, hy221⟩ : ∃ y_ : List Int, y_ = ((x217002_1.take ((wrap64 (16 * (wrap64 ((rd t217 x43_1) + 1)))) : Int).toNat).drop ((ji39) : Int).toNat) := ⟨_, rfl⟩
           replace H : (if 0 ≤ (mn (l1.length : Int) (wrap64 (16 * x43_1))) then (if (mn (l1.length : Int) (wrap64 (16 * x43_1))) ≤ (l1.length : Int) then (impl_StorePut.l0 k1 l1 t210 t217 (t217.length : Int) (wrap64 (x43_1 + 1)) t206 t207 (x217002_1.take ((ji39) : Int).toNat ++ ((l1.drop ((mn (l1.length : Int) (wrap64 (16 * x43_1))) : Int).toNat).take (min (l1.drop ((mn (l1.length : Int) (wrap64 (16 * x43_1))) : Int).toNat).length y221.length) ++ x217002_1.drop (((ji39) : Int).toNat + min (l1.drop ((mn (l1.length : Int) (wrap64 (16 * x43_1))) : Int).toNat).length y221.length)))) else (none)) else (none)) = some (r1, r2, r3, r4, r5) := by first | (rw [hy221]; with_reducible exact H) | (have H2_ := (Option.bind_some _ _).symm.trans H; rw [hy221]; with_reducible exact H2_) | (have H2_ := (Option.bind_some _ _).symm.trans H; with_reducible exact H2_) | with_reducible exact H | (rw [hy221]; exact H) | exact H
           have Ny221 := Aside0.mk hy221
           clear hy221
           obtain ⟨ji43, hji43⟩ : ∃ j_ : Int, (mn (l1.length : Int) (wrap64 (16 * x43_1))) = j_ := ⟨_, rfl⟩
           replace H : (if 0 ≤ (ji43) then (if (ji43) ≤ (l1.length : Int) then (impl_StorePut.l0 k1 l1 t210 t217 (t217.length : Int) (wrap64 (x43_1 + 1)) t206 t207 (x217002_1.take ((ji39) : Int).toNat ++ ((l1.drop ((ji43) : Int).toNat).take (min (l1.drop ((ji43) : Int).toNat).length y221.length) ++ x217002_1.drop (((ji39) : Int).toNat + min (l1.drop ((ji43) : Int).toNat).length y221.length)))) else (none)) else (none)) = some (r1, r2, r3, r4, r5) := by first | (rw [hji43] at H; exact H) | (simp only [hji43] at H ⊢; exact H)
           have hji43_ : (if (wrap64 (16 * x43_1)) < (l1.length : Int) then (wrap64 (16 * x43_1)) else (l1.length : Int)) = ji43 := hji43
           by_cases c44 : 0 ≤ (ji43)
           ·rw [if_pos c44] at H
            have c44b0 := eq_true c44
            have c44b1 : decide (0 ≤ (ji43)) = true := decide_eq_true c44
            clear c44
            by_cases c45 : (ji43) ≤ (l1.length : Int)
            ·rw [if_pos c45] at H
             have c45b0 := eq_true c45
             have c45b1 : decide ((ji43) ≤ (l1.length : Int)) = true := decide_eq_true c45
             clear c45
             obtain ⟨y226, hy226⟩ : ∃ y_ : List Int, y_ = (x217002_1.take ((ji39) : Int).toNat ++ ((l1.drop ((ji43) : Int).toNat).take (min (l1.drop ((ji43) : Int).toNat).length y221.length) ++ x217002_1.drop (((ji39) : Int).toNat + min (l1.drop ((ji43) : Int).toNat).length y221.length))) := ⟨_, rfl⟩
             replace H : (impl_StorePut.l0 k1 l1 t210 t217 (t217.length : Int) (wrap64 (x43_1 + 1)) t206 t207 y226) = some (r1, r2, r3, r4, r5) := by first | (rw [hy226]; with_reducible exact H) | (have H2_ := (Option.bind_some _ _).symm.trans H; rw [hy226]; with_reducible exact H2_) | (have H2_ := (Option.bind_some _ _).symm.trans H; with_reducible exact H2_) | with_reducible exact H | (rw [hy226]; exact H) | exact H
             have Ny226 := Aside0.mk hy226
             clear hy226
             have H' := Aside0.mk H
             clear H
             have p220 : 0 ≤ (x43_1 : Int) := od_
             have q220 : x43_1 < (t217.length : Int) := od_
             obtain ⟨ad220, e220, hx220_0⟩ := Kd.at_int (Kd.R_reads' HO_41.out).2.2 x43_1 p220 q220
             cases e220
             replace p220 := eq_true p220
             replace q220 := eq_true q220
             try go_wp2
             replace HO_41 := Aside0.mk (Kd.R_drew HO_41.out); replace HO_213001 := Aside0.mk (Kd.R_drew HO_213001.out); replace HO_217001 := Aside0.mk (Kd.R_drew HO_217001.out); replace HO_217002 := Aside0.mk (Kd.R_drew HO_217002.out); replace BK203 := Aside0.mk (blk_drew BK203.out); replace BK204 := Aside0.mk (blk_drew BK204.out); replace BK212 := Aside0.mk (blk_drew BK212.out); replace BK216 := Aside0.mk (blk_drew BK216.out); replace HB := Aside0.mk (below_drew1 HB.out)
             obtain ⟨Ao48, co48, eo48⟩ := Kd.R_slice HO_217002.out
             (first | subst eo48 | (injection eo48 with f1_ f2_ f3_; have f4_ := f1_.symm; have f5_ := f3_.symm; clear f1_ f2_ f3_; subst f4_; subst f5_))
             have q47 : ((wrap64 (16 * (wrap64 ((rd t217 x43_1) + 1)))) : Int) ≤ ((x217002_1.length : Int) : Int) := od_
             obtain ⟨i047, hi047, _, hsz47, _⟩ := info_parts info5
             have hroom47 : x217002_1.length ≤ co48 := (Kd.R_reads' HO_217002.out).2.1
             have hC47 : Kd.C (Kd.int .u8) _ Ao48 x217002_1.length x217002_1 := (Kd.R_reads' HO_217002.out).2.2
             have ql47 : ((ji39) : Int) ≤ ((wrap64 (16 * (wrap64 ((rd t217 x43_1) + 1)))) : Int) := od_
             have q047 : (0 : Int) ≤ ((ji39) : Int) := od_
             have hcut47 := cut_mid (P := Try.prog) 22 5 .i64 .i64 Try.underlying22 hi047 1 hsz47 Ao48 x217002_1.length co48 (ji39) (wrap64 (16 * (wrap64 ((rd t217 x43_1) + 1)))) q047 ql47 q47 hroom47
             have hr47 := Kd.C_mid (lo := ((ji39) : Int).toNat) (hi := ((wrap64 (16 * (wrap64 ((rd t217 x43_1) + 1)))) : Int).toNat) (c := co48) hC47 (by omega) (by omega) hroom47
             obtain ⟨A47, hA47⟩ : ∃ A1, A1 = (if co48 = ((ji39) : Int).toNat then Ao48 else (Ao48 : Option Addr).map (·.add (((ji39) : Int).toNat * 1))) := ⟨_, rfl⟩
             obtain ⟨c47, hc47⟩ : ∃ c1, c1 = co48 - ((ji39) : Int).toNat := ⟨_, rfl⟩
             have hy47 : y221.length = ((wrap64 (16 * (wrap64 ((rd t217 x43_1) + 1)))) : Int).toNat - ((ji39) : Int).toNat := (by rw [Ny221.out, List.length_drop, List.length_take] <;> omega)
             rw [show ((x217002_1).take ((wrap64 (16 * (wrap64 ((rd t217 x43_1) + 1)))) : Int).toNat).drop ((ji39) : Int).toNat = y221 from Ny221.out.symm] at hr47
             replace hr47 : Kd.C (Kd.int .u8) _ A47 y221.length y221 := (by rw [hA47]; exact hr47)
             rw [← hy47, ← hA47, ← hc47] at hcut47
             have HR224 := Aside0.mk hr47
             have HC224 := Aside0.mk (show y221.length ≤ c47 from by rw [hy47, hc47]; exact Nat.sub_le_sub_right (Nat.le_trans (by omega) hroom47) _)
             clear hr47 hC47 hroom47 hi047 hsz47 hc47
             have KY47 := Aside0.mk hy47
             have KA47 := Aside0.mk hA47
             clear hy47 hA47
             have KL47 := Aside0.mk (show ((wrap64 (16 * (wrap64 ((rd t217 x43_1) + 1)))) : Int).toNat ≤ x217002_1.length from by omega)
             have KM47 := Aside0.mk (show ((ji39) : Int).toNat ≤ ((wrap64 (16 * (wrap64 ((rd t217 x43_1) + 1)))) : Int).toNat from by omega)
             replace q47 := eq_true q47
             obtain ⟨i049, hi049, _, hsz49, _⟩ := info_parts info5
             obtain ⟨A49, hcut49, hA49, hC49⟩ := print_drop_of (P := Try.prog) (Value.int .u8) 0 22 5 .i64 Try.underlying22 hi049 hsz49 A1 c1 l1 (ji43) (od_) (od_) HC1.out
             have HR225 := Aside0.mk (Kd.C_of_reads (h1 := fun _ => rfl) (hA49 _ (Kd.reads_of_C HR1.out)))
             have HC225 := Aside0.mk hC49
             clear hA49 hC49 hi049 hsz49
             refine start_ (n := 16) (S := fun w' => cw_ w' gb216 0 (.int .i64 t206) ∧ cw_ w' gb216 1 (.slice Ao21 t207.length co21) ∧ cw_ w' gb216 2 (.slice Ao48 x217002_1.length co48)) (ds := []) (bs 16 0) (by kernel_rfl) rfl rfl ⟨bt_ BK216 0, bt_ BK216 1, bt_ BK216 2⟩ (fun hHeld => ?_); refine with_tabW impl_StorePut.tab10 impl_StorePut.bits10 (fun HT_ HW_ => ?_)
             generalize wr.drew = w46 at HO_41 HO_213001 HO_217001 HO_217002 BK203 BK204 BK212 BK216 HB HR224 HR225 hHeld ⊢
             refine ps_ 0 48 (bs 16 1) HT_ ?_
             refine ps_ 2 50 (bm 16 5) HT_ ?_
             refine ps_ 3 51 (bm 16 13) HT_ ?_
             refine ps_ 4 52 (bm 16 29) HT_ ?_
             refine ps_ 5 53 (bm 16 61) HT_ ?_
             refine ps_ 6 54 (bm 16 125) HT_ ?_
             refine ps_ 8 56 (bm 16 381) HT_ ?_
             refine ps_ 9 57 (bm 16 893) HT_ ?_
             refine ps_ 10 58 (bm 16 1917) HT_ ?_
             refine ps_ 11 59 (bm 16 3965) HT_ ?_
             refine ps_ 12 60 (bm 16 8061) HT_ ?_
             refine ps_ 13 61 (bm 16 16253) HT_ ?_
             refine ps_ 14 62 (bm 16 32637) HT_ ?_
             refine tk_ 1 49 (bm 16 32639) HT_ HW_ hHeld ?_
             refine ps_ 7 55 (bs 16 15) HT_ ?_
             refine on_ 15 (some 63) (bs 16 16) HT_ (fun K hK => ?_)
             refine R_copycut_step_ 0 (w0 := w) w.heap.size (by rfl) (.tmp 55) (.tmp 62) 22 22 5 rfl Try.underlying22 (by kernel_rfl) Ao48 x217002_1.length co48 ((ji39) : Int).toNat x217002_1 (l1.drop ((ji43) : Int).toNat) _ _ _ _ _ _ _ rfl rfl KA47.out ?cL (kr_ HO_217002) ?cR (bf_ HB) (below_size (bf_ HB)) ?_
             (case cR => first | (rw [← show (l1.drop ((ji43) : Int).toNat).length = (l1.length - (ji43).toNat) from List.length_drop]; repeat (first | exact (Kd.C_below HR225.out HB.out) | (with_reducible refine Kd.C_alloc ?_ _) | (with_reducible refine Kd.C_drewN ?_ _) | (with_reducible refine Kd.C_drew ?_))) | (repeat (first | exact (Kd.C_below HR225.out HB.out) | (with_reducible refine Kd.C_alloc ?_ _) | (with_reducible refine Kd.C_drewN ?_ _) | (with_reducible refine Kd.C_drew ?_))))
             (case cL => have ha_ := KY47.out; have hb_ : ((ji39) : Int) ≤ ((wrap64 (16 * (wrap64 ((rd t217 x43_1) + 1)))) : Int) := od_; have hc_ : ((wrap64 (16 * (wrap64 ((rd t217 x43_1) + 1)))) : Int) ≤ ((x217002_1.length : Int) : Int) := od_; omega)
             intro w50 ho hb hg
             rw [← Ny226.out] at ho
             have n0_ := Aside0.mk (Kd.R_over' (v := (.slice Ao48 x217002_1.length co48)) (kr_ HO_41) (Kd.R_typed HO_217002.out) (by decide) hg)
             have n1_ := Aside0.mk (Kd.R_over' (v := (.slice Ao48 x217002_1.length co48)) (kr_ HO_213001) (Kd.R_typed HO_217002.out) (by decide) hg)
             have n2_ := Aside0.mk (Kd.R_over' (v := (.slice Ao48 x217002_1.length co48)) (kr_ HO_217001) (Kd.R_typed HO_217002.out) (by decide) hg)
             have n3_ := Aside0.mk (ho)
             have n4_ := Aside0.mk (blk_grown (g := gb203) (o := .cells #[.int .i64 a0_0, .slice A0_1 l0_1.length c0_1, .slice A0_2 l0_2.length c0_2] 29 (0, 0)) (bk_ BK203) hg (Kd.R_ne HO_217002.out BK203.out (by decide)))
             have n5_ := Aside0.mk (blk_grown (g := gb204) (o := .cells #[.int .i64 0, .slice none 0 0, .slice none 0 0] 29 (0, 0)) (bk_ BK204) hg (Kd.R_ne HO_217002.out BK204.out (by decide)))
             have n6_ := Aside0.mk (blk_grown (g := gb212) (o := .cells #[.int .i64 t206, .slice Ao21 t207.length co21] 27 (0, 0)) (bk_ BK212) hg (Kd.R_ne HO_217002.out BK212.out (by decide)))
             have n7_ := Aside0.mk (blk_grown (g := gb216) (o := .cells #[.int .i64 t206, .slice Ao21 t207.length co21, .slice Ao48 x217002_1.length co48] 29 (0, 0)) (bk_ BK216) hg (Kd.R_ne HO_217002.out BK216.out (by decide)))
             have n8_ := Aside0.mk (hb); clear HO_41 HO_213001 HO_217001 HO_217002 BK203 BK204 BK212 BK216 HB; have HO_41 := n0_; have HO_213001 := n1_; have HO_217001 := n2_; have HO_217002 := n3_; have BK203 := n4_; have BK204 := n5_; have BK212 := n6_; have BK216 := n7_; have HB := n8_; clear n0_ n1_ n2_ n3_ n4_ n5_ n6_ n7_ n8_ ho hb hg
             refine hK.out _ _ ⟨bt_ BK216 0, bt_ BK216 1, bt_ BK216 2⟩ (fun hHeld => ?_)
             clear hK K
             refine norm_ (a' := ?_) ?_ ?_
             rotate_left
             ·show Act.put _ (some 63) _ = _
              simp only [Act.put, ls0_, ls1_, ls2_, i64_w, i32_w]
              rfl
             refine done_ (done_of HT_.out (by kernel_rfl)) ?_
             try go_wp2
             go_roundg k1
             case measure => have := HK1.out; omega
             case rel => exact ⟨(wrap64 (x43_1 + 1)), (y226), (.slice Ao48 x217002_1.length co48), (by first | rfl | (simp; done) | (simp [*]; done)), H', ⟨by have := HK1.out; omega⟩, ⟨kr_ HO_41⟩, ⟨kr_ HO_213001⟩, ⟨kr_ HO_217001⟩, ⟨kr_ HO_217002⟩, ⟨bk_ BK203⟩, ⟨bk_ BK204⟩, ⟨bk_ BK212⟩, ⟨bk_ BK216⟩, ⟨bf_ HB⟩⟩
            ·rw [if_neg c45] at H
             exact absurd H (by simp)
           ·rw [if_neg c44] at H
            exact absurd H (by simp)
          ·rw [if_neg c42] at H
           exact absurd H (by simp)
         ·rw [if_neg c41] at H
          exact absurd H (by simp)
        ·rw [if_neg c40] at H
         exact absurd H (by simp)
       ·rw [if_neg c38] at H
        exact absurd H (by simp)
      ·rw [if_neg c37] at H
       exact absurd H (by simp)
     ·rw [if_neg c36] at H
      have c36b0 : decide (x43_1 < (t217.length : Int)) = false := decide_eq_false c36
      clear c36
      simp only [Option.some.injEq, Prod.mk.injEq] at H
      obtain ⟨rfl, rfl, rfl, rfl, rfl⟩ := H
      have hnb52 := NB216_203.out; have hnc52 := NB203_216.out; have hnb53 := NB216_204.out; have hnc53 := NB204_216.out; have hnb54 := NB216_212.out; have hnc54 := NB212_216.out; obtain ⟨hcz55_0, hcz55_1, hcz55_2, hfz55_0, hfz55_1, hfz55_2⟩ := bz3_ BK216; have hnb56 := NB204_203.out; have hnc56 := NB203_204.out; have hnb57 := NB204_212.out; have hnc57 := NB212_204.out; obtain ⟨hcz58_0, hcz58_1, hcz58_2, hfz58_0, hfz58_1, hfz58_2⟩ := bz3_ BK204
      obtain ⟨Ao59, co59, eo59⟩ := Kd.R_slice HO_217002.out
      subst eo59
      go_wp2
      refine bodyPost_ret (results_ctt rfl _ _ gb204 29 #[.int .i64 t206, .slice Ao21 t207.length co21, .slice Ao59 x217002_1.length co59] (0, 0) _ rfl (by (with_reducible repeat (first | refine blk_drewN ?_ _ | refine blk_drew ?_ | refine blk_alloc ?_ _)); refine blk_put (cs := #[.int .i64 t206, .slice Ao21 t207.length co21, .slice none 0 0]) ?_ 2 _ rfl; (with_reducible repeat (first | refine blk_drewN ?_ _ | refine blk_drew ?_ | refine blk_alloc ?_ _)); refine blk_put (cs := #[.int .i64 t206, .slice none 0 0, .slice none 0 0]) ?_ 1 _ rfl; (with_reducible repeat (first | refine blk_drewN ?_ _ | refine blk_drew ?_ | refine blk_alloc ?_ _)); refine blk_put (cs := #[.int .i64 0, .slice none 0 0, .slice none 0 0]) ?_ 0 _ rfl; exact bk_ BK204) Try.underlying29 rfl (by kernel_rfl)) rfl ?_
      exact ⟨_, _, by first | rfl | (simp [errW_none, errW_some] <;> rfl) | (simp only [← hji5]; first | rfl | (simp [errW_none, errW_some] <;> rfl)) | (simp [*, errW_none, errW_some] <;> rfl), by (with_reducible repeat (first | apply Kd.R_alloc | apply Kd.R_drewN | apply Kd.R_drew)); exact Kd.R_mono (Kd.R_far (p := ⟨gb204, 2, none⟩) (Kd.R_far (p := ⟨gb204, 1, none⟩) (Kd.R_far (p := ⟨gb204, 0, none⟩) (Kd.R_types HO_217001.out BK204.out (by decide)) (fun _ hk => by first | exact hk.2 | grind) (.int .i64 t206)) (fun _ hk => by first | exact hk.2 | grind) (.slice Ao21 t207.length co21)) (fun _ hk => by first | exact hk.2 | grind) (.slice Ao59 x217002_1.length co59)) (fun _ hk => by first | exact trivial | grind), by (with_reducible repeat (first | apply Kd.R_alloc | apply Kd.R_drewN | apply Kd.R_drew)); exact Kd.R_mono (Kd.R_far (p := ⟨gb204, 2, none⟩) (Kd.R_far (p := ⟨gb204, 1, none⟩) (Kd.R_far (p := ⟨gb204, 0, none⟩) (Kd.R_types HO_217002.out BK204.out (by decide)) (fun _ hk => by first | exact hk.2 | grind) (.int .i64 t206)) (fun _ hk => by first | exact hk.2 | grind) (.slice Ao21 t207.length co21)) (fun _ hk => by first | exact hk.2 | grind) (.slice Ao59 x217002_1.length co59)) (fun _ hk => by first | exact trivial | grind), bf_ HB⟩
  ·rw [if_neg c7] at H
   have c7b0 : (t211 == 0) = false := beq_eq_false_iff_ne.mpr c7
   have c7b1 : (t211 != 0) = true := bne_iff_ne.mpr c7
   simp only [Option.some.injEq, Prod.mk.injEq] at H
   obtain ⟨rfl, rfl, rfl, rfl, rfl⟩ := H
   go_enter Try.func14, Try.ntmps14
   go_wp2_with (first | ((with_reducible refine gd_ 2 rfl ?_); refine bv_ 2 #[.int .i64 a0_0, .slice A0_1 l0_1.length c0_1, .slice A0_2 l0_2.length c0_2] 29 ?_; intro gb203 hg w60 hbox hb; have BK203 := Aside0.mk (hbox); have GW203 := gw_ HB hg; have GE203 := gw_ HB hg; replace HB := Aside0.mk (below_step (be_ HB) hb); clear hb hbox hg) | ((with_reducible refine gd_ 4 rfl ?_); refine bv_ 4 #[.int .i64 0, .slice none 0 0, .slice none 0 0] 29 ?_; intro gb204 hg w61 hbox hb; have BK204 := Aside0.mk (hbox); have GW204 := gw_ HB hg; have GE204 := gw_ HB hg; replace HB := Aside0.mk (below_step (bf_ HB) hb); have NB203_204 := nl_ BK203 hg; have NB204_203 := ng_ BK203 hg; replace BK203 := bb_ BK203 hb; clear hb hbox hg; have hnb62 := NB203_204.out; have hnc62 := NB204_203.out; obtain ⟨hcz63_0, hcz63_1, hcz63_2, hfz63_0, hfz63_1, hfz63_2⟩ := bz3_ BK203) | ((with_reducible refine gc_ 47 rfl ?_); refine gl_ 14 Try.func47 #[.agg #[.int .i64 a0_0, .slice A0_1 l0_1.length c0_1, .slice A0_2 l0_2.length c0_2]] ?_; (with_reducible refine (impl_StoreOk.calls k a0_0 _ _ l0_1 _ _ l0_2 true _ ?side1 ?side2 ?side3 ?side4 A3.out).mono ?_); (case side1 => repeat (first | exact (Kd.C_below HR0_1.out HB.out) | (with_reducible refine Kd.C_alloc ?_ _) | (with_reducible refine Kd.C_drewN ?_ _) | (with_reducible refine Kd.C_drew ?_))); (case side2 => exact HC0_1.out); (case side3 => repeat (first | exact (Kd.C_below HR0_2.out HB.out) | (with_reducible refine Kd.C_alloc ?_ _) | (with_reducible refine Kd.C_drewN ?_ _) | (with_reducible refine Kd.C_drew ?_))); (case side4 => exact HC0_2.out); rintro e w64 ⟨rfl, hb⟩; refine ⟨_, rfl, ?_⟩; replace BK203 := bb_ BK203 hb; replace BK204 := bb_ BK204 hb; replace HB := Aside0.mk (below_step (bf_ HB) hb); (try clear hb); (try clear hb2); (try clear hk); (try clear hi); obtain ⟨hcz65_0, hcz65_1, hcz65_2, hfz65_0, hfz65_1, hfz65_2⟩ := bz3_ BK203) | ((with_reducible refine gc_ 50 rfl ?_); refine goesL_ (some 26) rfl rfl Try.func50 (by kernel_rfl) rfl #[.agg #[.int .i64 a0_0, .slice A0_1 l0_1.length c0_1], .int .i64 ji5] rfl (by (try simp only [List.map_toArray, List.map_cons, List.map_nil]); first | done | (simp only [hji5]; rfl) | rfl | (simp only [List.length_drop, List.length_take]; rfl)) ?_; (with_reducible refine (impl_SlabTake.calls k a0_0 _ _ l0_1 ji5 t206 t207 t210 t211 _ ?side1 ?side2 A6.out).mono ?_); (case side1 => repeat (first | exact (Kd.C_below HR0_1.out HB.out) | (with_reducible refine Kd.C_alloc ?_ _) | (with_reducible refine Kd.C_drewN ?_ _) | (with_reducible refine Kd.C_drew ?_))); (case side2 => exact HC0_1.out); rintro e w66 ⟨v208, rfl, ho0, hb⟩; refine ⟨_, rfl, ?_⟩; have HO209 := Aside0.mk (Kd.R_lower ho0 (below_size (bf_ HB))); replace BK203 := bb_ BK203 hb; replace BK204 := bb_ BK204 hb; replace HB := Aside0.mk (below_step (bf_ HB) hb); (try clear hb); (try clear hb2); (try clear hk); (try clear hi); (try clear ho0)) | ((with_reducible refine gd_ 7 rfl ?_); refine bv_ 7 #[.int .i64 0, .slice none 0 0] 27 ?_; intro gb212 hg w67 hbox hb; replace HO209 := Aside0.mk (Kd.R_below (kr_ HO209) hb); have BK212 := Aside0.mk (hbox); have GW212 := gw_ HB hg; have GE212 := gw_ HB hg; replace HB := Aside0.mk (below_step (bf_ HB) hb); have NB203_212 := nl_ BK203 hg; have NB212_203 := ng_ BK203 hg; replace BK203 := bb_ BK203 hb; have NB204_212 := nl_ BK204 hg; have NB212_204 := ng_ BK204 hg; replace BK204 := bb_ BK204 hb; clear hb hbox hg; have hnb68 := NB212_203.out; have hnc68 := NB203_212.out; have hnb69 := NB212_204.out; have hnc69 := NB204_212.out; obtain ⟨hcz70_0, hcz70_1, hfz70_0, hfz70_1⟩ := bz2_ BK212; obtain ⟨Ao71, co71, eo71⟩ := Kd.R_slice HO209.out; subst eo71; obtain ⟨hcz72_0, hcz72_1, hcz72_2, hfz72_0, hfz72_1, hfz72_2⟩ := bz3_ BK204))
   refine bodyPost_ret (results_ctt rfl _ _ gb204 29 #[.int .i64 0, .slice none 0 0, .slice none 0 0] (0, 0) _ rfl (by (with_reducible repeat (first | refine blk_drewN ?_ _ | refine blk_drew ?_ | refine blk_alloc ?_ _)); refine blk_put (cs := #[.int .i64 0, .slice none 0 0, .slice none 0 0]) ?_ 2 _ rfl; (with_reducible repeat (first | refine blk_drewN ?_ _ | refine blk_drew ?_ | refine blk_alloc ?_ _)); refine blk_put (cs := #[.int .i64 0, .slice none 0 0, .slice none 0 0]) ?_ 1 _ rfl; (with_reducible repeat (first | refine blk_drewN ?_ _ | refine blk_drew ?_ | refine blk_alloc ?_ _)); refine blk_put (cs := #[.int .i64 0, .slice none 0 0, .slice none 0 0]) ?_ 0 _ rfl; (with_reducible repeat (first | refine blk_drewN ?_ _ | refine blk_drew ?_ | refine blk_alloc ?_ _)); refine blk_far ?_ NB204_212.out _; (with_reducible repeat (first | refine blk_drewN ?_ _ | refine blk_drew ?_ | refine blk_alloc ?_ _)); refine blk_far ?_ NB204_212.out _; exact bk_ BK204) Try.underlying29 rfl (by kernel_rfl)) rfl ?_
   exact ⟨_, _, by first | rfl | (simp [errW_none, errW_some] <;> rfl) | (simp only [← hji5]; first | rfl | (simp [errW_none, errW_some] <;> rfl)) | (simp [*, errW_none, errW_some] <;> rfl), by first | exact Kd.R_nil _ _ _ _ _ | exact Kd.N_nil _ _ _ _ _ | exact Kd.V_nil _ _ _ _ _ | exact Kd.Q_nil _ _ _ _ _ | exact Kd.S_nil _ _ _ _ _, by first | exact Kd.R_nil _ _ _ _ _ | exact Kd.N_nil _ _ _ _ _ | exact Kd.V_nil _ _ _ _ _ | exact Kd.Q_nil _ _ _ _ _ | exact Kd.S_nil _ _ _ _ _, bf_ HB⟩
 ·replace c4 := Bool.eq_false_iff.mpr c4
  subst c4
  have H1 : (some (0, ([] : List Int), ([] : List Int), (-1), 1)) = some (r1, r2, r3, r4, r5) := by rw [if_neg (show ¬ (false = true) by decide)] at H; exact H
  clear H
  have H := H1
  clear H1
  simp only [Option.some.injEq, Prod.mk.injEq] at H
  obtain ⟨rfl, rfl, rfl, rfl, rfl⟩ := H
  go_enter Try.func14, Try.ntmps14
  go_wp2_with (first | ((with_reducible refine gd_ 2 rfl ?_); refine bv_ 2 #[.int .i64 a0_0, .slice A0_1 l0_1.length c0_1, .slice A0_2 l0_2.length c0_2] 29 ?_; intro gb203 hg w73 hbox hb; have BK203 := Aside0.mk (hbox); have GW203 := gw_ HB hg; have GE203 := gw_ HB hg; replace HB := Aside0.mk (below_step (be_ HB) hb); clear hb hbox hg) | ((with_reducible refine gd_ 4 rfl ?_); refine bv_ 4 #[.int .i64 0, .slice none 0 0, .slice none 0 0] 29 ?_; intro gb204 hg w74 hbox hb; have BK204 := Aside0.mk (hbox); have GW204 := gw_ HB hg; have GE204 := gw_ HB hg; replace HB := Aside0.mk (below_step (bf_ HB) hb); have NB203_204 := nl_ BK203 hg; have NB204_203 := ng_ BK203 hg; replace BK203 := bb_ BK203 hb; clear hb hbox hg; have hnb75 := NB203_204.out; have hnc75 := NB204_203.out; obtain ⟨hcz76_0, hcz76_1, hcz76_2, hfz76_0, hfz76_1, hfz76_2⟩ := bz3_ BK203) | ((with_reducible refine gc_ 47 rfl ?_); refine gl_ 14 Try.func47 #[.agg #[.int .i64 a0_0, .slice A0_1 l0_1.length c0_1, .slice A0_2 l0_2.length c0_2]] ?_; (with_reducible refine (impl_StoreOk.calls k a0_0 _ _ l0_1 _ _ l0_2 false _ ?side1 ?side2 ?side3 ?side4 A3.out).mono ?_); (case side1 => repeat (first | exact (Kd.C_below HR0_1.out HB.out) | (with_reducible refine Kd.C_alloc ?_ _) | (with_reducible refine Kd.C_drewN ?_ _) | (with_reducible refine Kd.C_drew ?_))); (case side2 => exact HC0_1.out); (case side3 => repeat (first | exact (Kd.C_below HR0_2.out HB.out) | (with_reducible refine Kd.C_alloc ?_ _) | (with_reducible refine Kd.C_drewN ?_ _) | (with_reducible refine Kd.C_drew ?_))); (case side4 => exact HC0_2.out); rintro e w77 ⟨rfl, hb⟩; refine ⟨_, rfl, ?_⟩; replace BK203 := bb_ BK203 hb; replace BK204 := bb_ BK204 hb; replace HB := Aside0.mk (below_step (bf_ HB) hb); (try clear hb); (try clear hb2); (try clear hk); (try clear hi); obtain ⟨hcz78_0, hcz78_1, hcz78_2, hfz78_0, hfz78_1, hfz78_2⟩ := bz3_ BK204))
  refine bodyPost_ret (results_ctt rfl _ _ gb204 29 #[.int .i64 0, .slice none 0 0, .slice none 0 0] (0, 0) _ rfl (by (with_reducible repeat (first | refine blk_drewN ?_ _ | refine blk_drew ?_ | refine blk_alloc ?_ _)); refine blk_put (cs := #[.int .i64 0, .slice none 0 0, .slice none 0 0]) ?_ 2 _ rfl; (with_reducible repeat (first | refine blk_drewN ?_ _ | refine blk_drew ?_ | refine blk_alloc ?_ _)); refine blk_put (cs := #[.int .i64 0, .slice none 0 0, .slice none 0 0]) ?_ 1 _ rfl; (with_reducible repeat (first | refine blk_drewN ?_ _ | refine blk_drew ?_ | refine blk_alloc ?_ _)); refine blk_put (cs := #[.int .i64 0, .slice none 0 0, .slice none 0 0]) ?_ 0 _ rfl; exact bk_ BK204) Try.underlying29 rfl (by kernel_rfl)) rfl ?_
  exact ⟨_, _, by first | rfl | (simp [errW_none, errW_some] <;> rfl) | (simp [*, errW_none, errW_some] <;> rfl), by first | exact Kd.R_nil _ _ _ _ _ | exact Kd.N_nil _ _ _ _ _ | exact Kd.V_nil _ _ _ _ _ | exact Kd.Q_nil _ _ _ _ _ | exact Kd.S_nil _ _ _ _ _, by first | exact Kd.R_nil _ _ _ _ _ | exact Kd.N_nil _ _ _ _ _ | exact Kd.V_nil _ _ _ _ _ | exact Kd.Q_nil _ _ _ _ _ | exact Kd.S_nil _ _ _ _ _, bf_ HB⟩

/-! ### laws_bytesOf: function 15 -/
def laws_bytesOf.f (l0 : List Int) : Option (List Int) := (some (([] : List Int) : List Int)).bind fun y227 => (if y227.length + l0.length < 140737488355328 then (some (y227 ++ l0)) else (none))
set_option maxHeartbeats 8000000 in
set_option maxRecDepth 100000 in
theorem laws_bytesOf.calls (A0 : Option Addr) (c0 : Nat) (l0 : List Int) (r : List Int) (w : World) (hr0 : Kd.C (Kd.int .u8) w A0 l0.length l0) (hc0 : l0.length ≤ c0) (h : laws_bytesOf.f l0 = some r) :
  Calls Try.prog 15 #[.slice A0 l0.length c0] w fun e w' => ∃ v0_ : Value, e = .returned (v0_) ∧ Kd.R (Kd.int .u8) 5 w' w.heap.size (fun _ => True) v0_ r ∧ Below w.heap.size w w' := by
 have HR0 := Aside0.mk hr0
 have HC0 := Aside0.mk hc0
 clear hr0 hc0; have HB := Aside0.mk (Below.refl w.heap.size w)
 have H : ((some (([] : List Int) : List Int)).bind fun y227 => (if y227.length + l0.length < 140737488355328 then (some (y227 ++ l0)) else (none))) = some r := h
 clear h
 obtain ⟨y227, hy227⟩ : ∃ y_ : List Int, y_ = (([] : List Int)) := ⟨_, rfl⟩
 replace H : (if y227.length + l0.length < 140737488355328 then (some (y227 ++ l0)) else (none)) = some r := by first | (rw [hy227]; with_reducible exact H) | (have H2_ := (Option.bind_some _ _).symm.trans H; rw [hy227]; with_reducible exact H2_) | (have H2_ := (Option.bind_some _ _).symm.trans H; with_reducible exact H2_) | with_reducible exact H | (rw [hy227]; exact H) | exact H
 have Ny227 := Aside0.mk hy227
 clear hy227
 by_cases c2 : y227.length + l0.length < 140737488355328
 ·rw [if_pos c2] at H
  have LMc2 := Aside0.mk c2
  clear c2
  obtain ⟨y230, hy230⟩ : ∃ y_ : List Int, y_ = (y227 ++ l0) := ⟨_, rfl⟩
  replace H : (some y230) = some r := by first | (rw [hy230]; with_reducible exact H) | (have H2_ := (Option.bind_some _ _).symm.trans H; rw [hy230]; with_reducible exact H2_) | (have H2_ := (Option.bind_some _ _).symm.trans H; with_reducible exact H2_) | with_reducible exact H | (rw [hy230]; exact H) | exact H
  have Ny230 := Aside0.mk hy230
  clear hy230
  obtain rfl := Option.some.inj H
  go_enter Try.func15, Try.ntmps15
  go_wp2_with (first | ((with_reducible refine gd_ 3 rfl ?_); refine Kd.R_lit (Kd.int .u8) _ 5 ?hg (N := 3) ?hd (xs := ([] : List Int)) (inner := []) (ok := fun _ => True) (okp := fun _ => True) ?hr ?hp (fun _ hk => by first | exact hk | grind) trivial (Below.refl _ _) (Nat.le_refl _) (by simp) ?_; (case hd => rfl); (case hg => rfl); (case hr => first | (go_simp; done) | (go_simp; rfl)); (case hp => exact (Reps.none _ _)); intro v228 w3 ho4 hb hg_ hnew_; clear hg_ hnew_; (first | rw [← Ny227.out] at ho4 | (simp only [Int.reduceToNat] at ho4; rw [← Ny227.out] at ho4)); have HO229 := Aside0.mk (Kd.R_lower ho4 (below_size (be_ HB))); replace HB := Aside0.mk (below_step (be_ HB) hb); clear hb ho4) | ((with_reducible refine gate_builtin (b := .append) (xs := #[.tmp 3, .tmp 4]) rfl ?_); at_builtin; refine Kd.R_append_rows (Kd.int .u8) (w0 := w) w.heap.size rfl (.tmp 3) (.tmp 4) 22 5 (.int .u8 0) 1 rfl Try.underlying22 info5 rfl (by decide) (by omega) v228 y227 l0 _ _ _ (fun _ => True) (fun _ => False) rfl rfl ?aO ?aR (fun _ _ h => h) (fun _ h => h.elim) ?aF ?aB ?aS ?aL ?_; (case aR => repeat (first | exact (Kd.C_below HR0.out HB.out) | (with_reducible refine Kd.C_alloc ?_ _) | (with_reducible refine Kd.C_drewN ?_ _) | (with_reducible refine Kd.C_drew ?_))); (case aB => exact (be_ HB)); (case aF => exact (fun _ _ => trivial)); (case aO => exact (kr_ HO229)); (case aS => exact (below_size (be_ HB))); (case aL => have := LMc2.out; omega); intro v231 w5 ho hb hg hat; rw [← Ny230.out] at ho; replace HB := Aside0.mk (hb); have HO232 := Aside0.mk (ho); clear HO229 ho hb hg hat))
  go_ret
  exact ⟨_, by first | rfl | (simp [errW_none, errW_some] <;> rfl) | (simp [*, errW_none, errW_some] <;> rfl), by (with_reducible repeat (first | apply Kd.R_alloc | apply Kd.R_drewN | apply Kd.R_drew)); exact HO232.out, be_ HB⟩
 ·rw [if_neg c2] at H
  exact absurd H (by simp)

end Go.Proofs.Ytlafobfjbkhioaa.PFnStoreBook
