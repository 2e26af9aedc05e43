-- printed by a program of this session (wip/printx) out of the translation; Lean checks it
import Derived.Test.YtlafobfjbkhioaaXSq
import Derived.Test.YtlafobfjbkhioaaPFnStoreBookx0
import Derived.Test.YtlafobfjbkhioaaPFnStoreBookx1
import Derived.Test.YtlafobfjbkhioaaPFnStoreBookx2
namespace Go.Proofs.Ytlafobfjbkhioaa.PFnStoreBook
open Go.RowKit Go.Proofs.YtlafobfjbkhioaaW.PrintWords Go.Proofs.YtlafobfjbkhioaaW.PrintLast Go.Proofs.YtlafobfjbkhioaaW.PrintMore
attribute [local go_sem] max2_int min2_int max_two min_two max_three min_three max_four min_four   -- for this text's walks alone
set_option linter.unusedVariables false
set_option linter.unusedSimpArgs false

/-! ### impl_SlabGive: function 48 -/
def impl_SlabGive.j0 : Nat → Int → Bool → Int → List Int → Option (Int × List Int × Int)
  | 0, _, _, _, _ => none
  | k + 1, x1, x13, x158000, x158001 => if x13 = true then (some (0, ([] : List Int), 3)) else ((impl_copySlab.f x158000 x158001).bind fun bt161 => ((impl_Slab_chain.f k x158000 x158001 x1).bind fun t165 => (if 0 ≤ (wrap64 ((t165.length : Int) - 1)) then (if (wrap64 ((t165.length : Int) - 1)) < (t165.length : Int) then (if 0 ≤ (rd t165 (wrap64 ((t165.length : Int) - 1))) then (if (rd t165 (wrap64 ((t165.length : Int) - 1))) < (bt161.2.length : Int) then (some (x1, (bt161.2.set ((rd t165 (wrap64 ((t165.length : Int) - 1))) : Int).toNat x158000), 0)) else (none)) else (none)) else (none)) else (none))))
def impl_SlabGive.f (k : Nat) (a0_0 : Int) (l0_1 : List Int) (a1 : Int) : Option (Int × List Int × Int) := (impl_SlabOk.f k a0_0 l0_1).bind fun t159 => (if t159 = true then ((impl_Slab_isHead.f k a0_0 l0_1 a1).bind fun t160 => (if t160 = true then (impl_SlabGive.j0 k a1 (a1 == a0_0) a0_0 l0_1) else (impl_SlabGive.j0 k a1 true a0_0 l0_1))) else (some (0, ([] : List Int), 1)))
theorem impl_SlabGive.mono_l : ∀ k, (∀ y0 y1 y2 y3, LeO (impl_SlabGive.j0 k y0 y1 y2 y3) (impl_SlabGive.j0 (k + 1) y0 y1 y2 y3))
 | 0 => fun _ _ _ _ r h => by simp [impl_SlabGive.j0] at h
 | k + 1 => by
  have ih0 := impl_SlabGive.mono_l k
  ·intro y0 y1 y2 y3
   unfold impl_SlabGive.j0
   repeat' first
   | (with_reducible exact ih0 _ _ _ _)
   | (with_reducible exact impl_SlabOk.mono _ _ _)
   | (with_reducible exact impl_Slab_chain.mono _ _ _ _)
   | (with_reducible exact impl_Slab_isHead.mono _ _ _ _)
   | (with_reducible exact LeO.refl _)
   | (with_reducible exact LeO.none _)
   | (with_reducible refine LeO.ite ?_ ?_)
   | (with_reducible refine LeO.bind ?_ (fun _ => ?_))
   | exact ih0 _ _ _ _
   | exact impl_SlabOk.mono _ _ _
   | exact impl_Slab_chain.mono _ _ _ _
   | exact impl_Slab_isHead.mono _ _ _ _
   | exact LeO.none _
   | refine LeO.ite ?_ ?_
   | refine LeO.bind ?_ (fun _ => ?_)
theorem impl_SlabGive.mono : ∀ a0 a1 a2 k, LeO (impl_SlabGive.f k a0 a1 a2) (impl_SlabGive.f (k + 1) a0 a1 a2) := by
 intro a0 a1 a2 k
 have ih0 := impl_SlabGive.mono_l k
 unfold impl_SlabGive.f
 repeat' first
   | (with_reducible exact ih0 _ _ _ _)
   | (with_reducible exact impl_SlabOk.mono _ _ _)
   | (with_reducible exact impl_Slab_chain.mono _ _ _ _)
   | (with_reducible exact impl_Slab_isHead.mono _ _ _ _)
   | (with_reducible exact LeO.refl _)
   | (with_reducible exact LeO.none _)
   | (with_reducible refine LeO.ite ?_ ?_)
   | (with_reducible refine LeO.bind ?_ (fun _ => ?_))
   | exact ih0 _ _ _ _
   | exact impl_SlabOk.mono _ _ _
   | exact impl_Slab_chain.mono _ _ _ _
   | exact impl_Slab_isHead.mono _ _ _ _
   | exact LeO.none _
   | refine LeO.ite ?_ ?_
   | refine LeO.bind ?_ (fun _ => ?_)
def impl_SlabGive.T5 : Bool × List (List Nat × List Nat) := (true, [([], []), ([0], [0]), ([], []), ([], []), ([2, 3, 1], [2, 3]), ([], []), ([5, 1, 4, 0, 1, 5], [1, 5]), ([4, 6, 0, 1, 2, 3, 4, 5, 6], [4])])
def impl_SlabGive.B5 : List Nat := [0, 1, 0, 0, 15, 0, 63, 127]
theorem impl_SlabGive.tab5 : rtab .any (opsOf Try.f48 5) = impl_SlabGive.T5 := by kernel_rfl
theorem impl_SlabGive.bits5 : waitsOk impl_SlabGive.T5.2 impl_SlabGive.B5 = true := by kernel_rfl
def impl_SlabGive.T6 : Bool × List (List Nat × List Nat) := (true, [([], []), ([0], [0]), ([], []), ([], []), ([3], [3]), ([4], [4]), ([2, 5], [2, 5]), ([6], [6]), ([], []), ([8], [8]), ([], []), ([1, 7, 0, 1, 2, 3, 4, 5, 6, 7, 8, 9], [1, 7]), ([11, 9, 0, 1, 2, 3, 4, 5, 6, 7, 8, 9], [9, 11]), ([0, 1, 2, 3, 4, 5, 6, 7, 8, 9, 10, 11, 12], []), ([13, 10, 12, 0, 1, 2, 3, 4, 5, 6, 7, 8, 9, 10, 11, 12], [10, 13])])
def impl_SlabGive.B6 : List Nat := [0, 1, 0, 0, 8, 24, 60, 124, 0, 256, 0, 1023, 3071, 8191, 16383]
theorem impl_SlabGive.tab6 : rtab .any (opsOf Try.f48 6) = impl_SlabGive.T6 := by kernel_rfl
theorem impl_SlabGive.bits6 : waitsOk impl_SlabGive.T6.2 impl_SlabGive.B6 = true := by kernel_rfl
set_option maxHeartbeats 8000000 in
set_option maxRecDepth 100000 in
theorem impl_SlabGive.calls (k : Nat) (a0_0 : Int) (A0_1 : Option Addr) (c0_1 : Nat) (l0_1 : List Int) (a1 : Int) (r1 : Int) (r2 : List Int) (r3 : Int) (w : World) (hr0_1 : Kd.C (Kd.int .i64) w A0_1 l0_1.length l0_1) (hc0_1 : l0_1.length ≤ c0_1) (h : impl_SlabGive.f k a0_0 l0_1 a1 = some (r1, r2, r3)) :
  Calls Try.prog 48 #[.agg #[.int .i64 a0_0, .slice A0_1 l0_1.length c0_1], .int .i64 a1] w fun e w' => ∃ v1_ : Value, e = .returned (.tuple #[.agg #[.int .i64 r1, v1_], .int .i64 r3]) ∧ Kd.R (Kd.int .i64) 3 w' w.heap.size (fun _ => True) v1_ r2 ∧ Below w.heap.size w w' := by
 have hu27 := Try.underlying27
 have HR0_1 := Aside0.mk hr0_1
 have HC0_1 := Aside0.mk hc0_1
 clear hr0_1 hc0_1; have HB := Aside0.mk (Below.refl w.heap.size w)
 have H : ((impl_SlabOk.f k a0_0 l0_1).bind fun t159 => (if t159 = true then ((impl_Slab_isHead.f k a0_0 l0_1 a1).bind fun t160 => (if t160 = true then (impl_SlabGive.j0 k a1 (a1 == a0_0) a0_0 l0_1) else (impl_SlabGive.j0 k a1 true a0_0 l0_1))) else (some (0, ([] : List Int), 1)))) = some (r1, r2, r3) := h
 clear h
 replace H := Option.bind_eq_some_iff.mp H
 obtain ⟨t159, A30, H⟩ := H
 replace H : (if t159 = true then ((impl_Slab_isHead.f k a0_0 l0_1 a1).bind fun t160 => (if t160 = true then (impl_SlabGive.j0 k a1 (a1 == a0_0) a0_0 l0_1) else (impl_SlabGive.j0 k a1 true a0_0 l0_1))) else (some (0, ([] : List Int), 1))) = some (r1, r2, r3) := H
 have A3 := Aside0.mk A30
 clear A30
 by_cases c4 : t159 = true
 ·subst c4
  have H1 : ((impl_Slab_isHead.f k a0_0 l0_1 a1).bind fun t160 => (if t160 = true then (impl_SlabGive.j0 k a1 (a1 == a0_0) a0_0 l0_1) else (impl_SlabGive.j0 k a1 true a0_0 l0_1))) = some (r1, r2, r3) := by rw [if_pos rfl] at H; exact H
  clear H
  have H := H1
  clear H1
  have HC5 := Aside0.mk H
  clear H
  go_enter Try.func48, Try.ntmps48
  go_upto_region 3 with (first | ((with_reducible refine gd_ 2 rfl ?_); refine bv_ 2 #[.int .i64 a0_0, .slice A0_1 l0_1.length c0_1] 27 ?_; intro gb157 hg w6 hbox hb; have BK157 := Aside0.mk (hbox); have GW157 := gw_ HB hg; have GE157 := gw_ HB hg; replace HB := Aside0.mk (below_step (be_ HB) hb); clear hb hbox hg) | ((with_reducible refine gd_ 4 rfl ?_); refine bv_ 4 #[.int .i64 0, .slice none 0 0] 27 ?_; intro gb158 hg w7 hbox hb; have BK158 := Aside0.mk (hbox); have GW158 := gw_ HB hg; have GE158 := gw_ HB hg; replace HB := Aside0.mk (below_step (bf_ HB) hb); have NB157_158 := nl_ BK157 hg; have NB158_157 := ng_ BK157 hg; replace BK157 := bb_ BK157 hb; clear hb hbox hg; have hnb8 := NB157_158.out; have hnc8 := NB158_157.out; obtain ⟨hcz9_0, hcz9_1, hfz9_0, hfz9_1⟩ := bz2_ BK157) | ((with_reducible refine gc_ 53 rfl ?_); refine gl_ 10 Try.func53 #[.agg #[.int .i64 a0_0, .slice A0_1 l0_1.length c0_1]] ?_; (with_reducible refine (impl_SlabOk.calls k a0_0 _ _ l0_1 true _ ?side1 ?side2 A3.out).mono ?_); (case side1 => repeat (first | exact (Kd.C_below HR0_1.out HB.out) | (with_reducible refine Kd.C_alloc ?_ _) | (with_reducible refine Kd.C_drewN ?_ _) | (with_reducible refine Kd.C_drew ?_))); (case side2 => exact HC0_1.out); rintro e w10 ⟨rfl, hb⟩; refine ⟨_, rfl, ?_⟩; replace BK157 := bb_ BK157 hb; replace BK158 := bb_ BK158 hb; replace HB := Aside0.mk (below_step (bf_ HB) hb); (try clear hb); (try clear hb2); (try clear hk); (try clear hi)))
  (try simp only [Act.put, ls0_, ls1_, ls2_])
  go_cut [13] (fun v13 wc => ∃ (kq : Nat) (x13_4 : Bool), v13 = .bool x13_4 ∧ Aside0 (impl_SlabGive.j0 kq a1 x13_4 a0_0 l0_1 = some (r1, r2, r3)) ∧ Aside0 (kq ≤ k) ∧ Aside0 (wc.heap[gb157]? = some (.cells #[.int .i64 a0_0, (.slice A0_1 l0_1.length c0_1)] 27 (0, 0))) ∧ Aside0 (wc.heap[gb158]? = some (.cells #[.int .i64 0, (.slice none 0 0)] 27 (0, 0))) ∧ Aside0 (Below w.heap.size w wc))
  case first =>
   have H := HC5.out
   clear HC5
   replace H := Option.bind_eq_some_iff.mp H
   obtain ⟨t160, A110, H⟩ := H
   replace H : (if t160 = true then (impl_SlabGive.j0 k a1 (a1 == a0_0) a0_0 l0_1) else (impl_SlabGive.j0 k a1 true a0_0 l0_1)) = some (r1, r2, r3) := H
   have A11 := Aside0.mk A110
   clear A110
   by_cases c12 : t160 = true
   ·subst c12
    have H1 : (impl_SlabGive.j0 k a1 (a1 == a0_0) a0_0 l0_1) = some (r1, r2, r3) := by rw [if_pos rfl] at H; exact H
    clear H
    have H := H1
    clear H1
    have H' := Aside0.mk H
    clear H; have hnb13 := NB157_158.out; have hnc13 := NB158_157.out; obtain ⟨hcz14_0, hcz14_1, hfz14_0, hfz14_1⟩ := bz2_ BK157
    go_wp2_with (first | ((with_reducible refine gc_ 52 rfl ?_); refine gl_ 16 Try.func52 #[.agg #[.int .i64 a0_0, .slice A0_1 l0_1.length c0_1], .int .i64 a1] ?_; (with_reducible refine (impl_Slab_isHead.calls k a0_0 _ _ l0_1 a1 true _ ?side1 ?side2 A11.out).mono ?_); (case side1 => repeat (first | exact (Kd.C_below HR0_1.out HB.out) | (with_reducible refine Kd.C_alloc ?_ _) | (with_reducible refine Kd.C_drewN ?_ _) | (with_reducible refine Kd.C_drew ?_))); (case side2 => exact HC0_1.out); rintro e w15 ⟨rfl, hb⟩; refine ⟨_, rfl, ?_⟩; replace BK157 := bb_ BK157 hb; replace BK158 := bb_ BK158 hb; replace HB := Aside0.mk (below_step (bf_ HB) hb); (try clear hb); (try clear hb2); (try clear hk); (try clear hi); obtain ⟨hcz16_0, hcz16_1, hfz16_0, hfz16_1⟩ := bz2_ BK157))
    go_meet
    case rel => exact ⟨_, ((a1 == a0_0)), (by first | rfl | (simp; done) | (simp [*]; done)), H', ⟨by first | omega | exact Nat.le_refl _⟩, ⟨bk_ BK157⟩, ⟨bk_ BK158⟩, ⟨bf_ HB⟩⟩
   ·replace c12 := Bool.eq_false_iff.mpr c12
    subst c12
    have H1 : (impl_SlabGive.j0 k a1 true a0_0 l0_1) = some (r1, r2, r3) := by rw [if_neg (show ¬ (false = true) by decide)] at H; exact H
    clear H
    have H := H1
    clear H1
    have H' := Aside0.mk H
    clear H; have hnb17 := NB157_158.out; have hnc17 := NB158_157.out; obtain ⟨hcz18_0, hcz18_1, hfz18_0, hfz18_1⟩ := bz2_ BK157
    go_wp2_with (first | ((with_reducible refine gc_ 52 rfl ?_); refine gl_ 16 Try.func52 #[.agg #[.int .i64 a0_0, .slice A0_1 l0_1.length c0_1], .int .i64 a1] ?_; (with_reducible refine (impl_Slab_isHead.calls k a0_0 _ _ l0_1 a1 false _ ?side1 ?side2 A11.out).mono ?_); (case side1 => repeat (first | exact (Kd.C_below HR0_1.out HB.out) | (with_reducible refine Kd.C_alloc ?_ _) | (with_reducible refine Kd.C_drewN ?_ _) | (with_reducible refine Kd.C_drew ?_))); (case side2 => exact HC0_1.out); rintro e w19 ⟨rfl, hb⟩; refine ⟨_, rfl, ?_⟩; replace BK157 := bb_ BK157 hb; replace BK158 := bb_ BK158 hb; replace HB := Aside0.mk (below_step (bf_ HB) hb); (try clear hb); (try clear hb2); (try clear hk); (try clear hi)))
    go_meet
    case rel => exact ⟨_, (true), (by first | rfl | (simp; done) | (simp [*]; done)), H', ⟨by first | omega | exact Nat.le_refl _⟩, ⟨bk_ BK157⟩, ⟨bk_ BK158⟩, ⟨bf_ HB⟩⟩
  case rest =>
   clear HC5; (try clear c1); (try clear p2); (try clear c4); (try clear c5); (try clear c8); (try clear c12); (try clear c13); (try clear c17); (try clear hcz14_0 hcz14_1 hfz14_0 hfz14_1); (try clear hcz16_0 hcz16_1 hfz16_0 hfz16_1); (try clear hcz18_0 hcz18_1 hfz18_0 hfz18_1); (try clear hcz9_0 hcz9_1 hfz9_0 hfz9_1)
   obtain ⟨kq, x13_4, rfl, HA, HJ4, BK157, BK158, HB⟩ := hcut
   cases kq with
   | zero => exact absurd HA.out (by simp [impl_SlabGive.j0])
   | succ kj4 =>
    have H := HA.out
    clear HA
    simp only [impl_SlabGive.j0] at H
    by_cases c20 : x13_4 = true
    ·subst c20
     have H1 : (some (0, ([] : List Int), 3)) = some (r1, r2, r3) := by rw [if_pos rfl] at H; exact H
     clear H
     have H := H1
     clear H1
     simp only [Option.some.injEq, Prod.mk.injEq] at H
     obtain ⟨rfl, rfl, rfl⟩ := H
     have hnb21 := NB158_157.out; have hnc21 := NB157_158.out; obtain ⟨hcz22_0, hcz22_1, hfz22_0, hfz22_1⟩ := bz2_ BK158
     go_wp2
     refine bodyPost_ret (results_ct rfl _ _ gb158 27 #[.int .i64 0, .slice none 0 0] (0, 0) _ rfl (by (with_reducible repeat (first | refine blk_drewN ?_ _ | refine blk_drew ?_ | refine blk_alloc ?_ _)); refine blk_put (cs := #[.int .i64 0, .slice none 0 0]) ?_ 1 _ rfl; (with_reducible repeat (first | refine blk_drewN ?_ _ | refine blk_drew ?_ | refine blk_alloc ?_ _)); refine blk_put (cs := #[.int .i64 0, .slice none 0 0]) ?_ 0 _ rfl; exact bk_ BK158) Try.underlying27 rfl (by kernel_rfl)) rfl ?_
     exact ⟨_, by first | rfl | (simp [errW_none, errW_some] <;> rfl) | (simp [*, errW_none, errW_some] <;> rfl), by first | exact Kd.R_nil _ _ _ _ _ | exact Kd.N_nil _ _ _ _ _ | exact Kd.V_nil _ _ _ _ _ | exact Kd.Q_nil _ _ _ _ _ | exact Kd.S_nil _ _ _ _ _, bf_ HB⟩
    ·replace c20 := Bool.eq_false_iff.mpr c20
     subst c20
     have H1 : ((impl_copySlab.f a0_0 l0_1).bind fun bt161 => ((impl_Slab_chain.f kj4 a0_0 l0_1 a1).bind fun t165 => (if 0 ≤ (wrap64 ((t165.length : Int) - 1)) then (if (wrap64 ((t165.length : Int) - 1)) < (t165.length : Int) then (if 0 ≤ (rd t165 (wrap64 ((t165.length : Int) - 1))) then (if (rd t165 (wrap64 ((t165.length : Int) - 1))) < (bt161.2.length : Int) then (some (a1, (bt161.2.set ((rd t165 (wrap64 ((t165.length : Int) - 1))) : Int).toNat a0_0), 0)) else (none)) else (none)) else (none)) else (none)))) = some (r1, r2, r3) := by rw [if_neg (show ¬ (false = true) by decide)] at H; exact H
     clear H
     have H := H1
     clear H1
     replace H := Option.bind_eq_some_iff.mp H
     obtain ⟨⟨t161, t162⟩, A230, H⟩ := H
     replace H : ((impl_Slab_chain.f kj4 a0_0 l0_1 a1).bind fun t165 => (if 0 ≤ (wrap64 ((t165.length : Int) - 1)) then (if (wrap64 ((t165.length : Int) - 1)) < (t165.length : Int) then (if 0 ≤ (rd t165 (wrap64 ((t165.length : Int) - 1))) then (if (rd t165 (wrap64 ((t165.length : Int) - 1))) < (t162.length : Int) then (some (a1, (t162.set ((rd t165 (wrap64 ((t165.length : Int) - 1))) : Int).toNat a0_0), 0)) else (none)) else (none)) else (none)) else (none))) = some (r1, r2, r3) := H
     have A23 := Aside0.mk A230
     clear A230
     replace H := Option.bind_eq_some_iff.mp H
     obtain ⟨t165, A240, H⟩ := H
     replace H : (if 0 ≤ (wrap64 ((t165.length : Int) - 1)) then (if (wrap64 ((t165.length : Int) - 1)) < (t165.length : Int) then (if 0 ≤ (rd t165 (wrap64 ((t165.length : Int) - 1))) then (if (rd t165 (wrap64 ((t165.length : Int) - 1))) < (t162.length : Int) then (some (a1, (t162.set ((rd t165 (wrap64 ((t165.length : Int) - 1))) : Int).toNat a0_0), 0)) else (none)) else (none)) else (none)) else (none)) = some (r1, r2, r3) := H
     have A24 := Aside0.mk A240
     clear A240
     obtain ⟨ji25, hji25⟩ : ∃ j_ : Int, (wrap64 ((t165.length : Int) - 1)) = j_ := ⟨_, rfl⟩
     replace H : (if 0 ≤ (ji25) then (if (ji25) < (t165.length : Int) then (if 0 ≤ (rd t165 (ji25)) then (if (rd t165 (ji25)) < (t162.length : Int) then (some (a1, (t162.set ((rd t165 (ji25)) : Int).toNat a0_0), 0)) else (none)) else (none)) else (none)) else (none)) = some (r1, r2, r3) := by first | (rw [hji25] at H; exact H) | (simp only [hji25] at H ⊢; exact H)
     (try rw [hji25] at A23)
     (try rw [hji25] at A24)
     have hji25w : (IntKind.i64.wrap ((t165.length : Int) - 1)) = ji25 := (i64_w _).trans hji25
     by_cases c26 : 0 ≤ (ji25)
     ·rw [if_pos c26] at H
      have c26b0 : decide (0 ≤ (ji25)) = true := decide_eq_true c26
      clear c26
      by_cases c27 : (ji25) < (t165.length : Int)
      ·rw [if_pos c27] at H
       have c27b0 : decide ((ji25) < (t165.length : Int)) = true := decide_eq_true c27
       clear c27
       by_cases c28 : 0 ≤ (rd t165 (ji25))
       ·rw [if_pos c28] at H
        have c28b0 : decide (0 ≤ (rd t165 (ji25))) = true := decide_eq_true c28
        clear c28
        by_cases c29 : (rd t165 (ji25)) < (t162.length : Int)
        ·rw [if_pos c29] at H
         have c29b0 : decide ((rd t165 (ji25)) < (t162.length : Int)) = true := decide_eq_true c29
         clear c29
         obtain ⟨y170, hy170⟩ : ∃ y_ : List Int, y_ = (t162.set ((rd t165 (ji25)) : Int).toNat a0_0) := ⟨_, rfl⟩
         replace H : (some (a1, y170, 0)) = some (r1, r2, r3) := by first | (rw [hy170]; with_reducible exact H) | (have H2_ := (Option.bind_some _ _).symm.trans H; rw [hy170]; with_reducible exact H2_) | (have H2_ := (Option.bind_some _ _).symm.trans H; with_reducible exact H2_) | with_reducible exact H | (rw [hy170]; exact H) | exact H
         have Ny170 := Aside0.mk hy170
         clear hy170
         simp only [Option.some.injEq, Prod.mk.injEq] at H
         obtain ⟨rfl, rfl, rfl⟩ := H
         try go_wp2
         replace BK157 := Aside0.mk (blk_drew BK157.out); replace BK158 := Aside0.mk (blk_drew BK158.out); replace HB := Aside0.mk (below_drew1 HB.out)
         refine start_ (n := 8) (S := fun w' => cw_ w' gb157 0 (.int .i64 a0_0) ∧ cw_ w' gb157 1 (.slice A0_1 l0_1.length c0_1)) (ds := []) (bs 8 0) (by kernel_rfl) rfl rfl ⟨bt_ BK157 0, bt_ BK157 1⟩ (fun hHeld => ?_); refine with_tabW impl_SlabGive.tab5 impl_SlabGive.bits5 (fun HT_ HW_ => ?_)
         generalize wc.drew = w31 at BK157 BK158 HB hHeld ⊢
         refine ps_ 3 28 (bm 8 8) HT_ ?_
         refine tk_ 0 25 (bm 8 9) HT_ HW_ hHeld ?_
         refine tk_ 2 27 (bm 8 13) HT_ HW_ hHeld ?_
         refine join_ (σ := Value × Value × Nat) 2 (bs 8 6) (fun s_ => [(26, .agg #[.int .i64 t161, s_.1]), (29, s_.2.1), (6, .pointer (some ⟨s_.2.2, 0, none⟩))]) (fun s_ w' => (w'.cell? ⟨gb157, 0, none⟩ = some (.int .i64 a0_0) ∧ w'.cell? ⟨gb157, 1, none⟩ = some (.slice A0_1 l0_1.length c0_1)) ∧ (Kd.R (Kd.int .i64) 3 w' w.heap.size (fun k_ => some k_ ≠ (s_.2.1 : Value).ownBlock) s_.1 t162) ∧ (Kd.R (Kd.int .i64) 3 w' w.heap.size (fun k_ => some k_ ≠ (s_.1 : Value).ownBlock) s_.2.1 t165) ∧ (w'.heap[gb157]? = some (.cells #[.int .i64 a0_0, .slice A0_1 l0_1.length c0_1] 27 (0, 0))) ∧ (w'.heap[gb158]? = some (.cells #[.int .i64 0, .slice none 0 0] 27 (0, 0))) ∧ (w'.heap[s_.2.2]? = some (.cells #[.int .i64 0, .slice none 0 0] 27 (0, 0))) ∧ (w.heap.size ≤ s_.2.2) ∧ (w.heap.size ≤ s_.2.2) ∧ (gb157 ≠ s_.2.2) ∧ (s_.2.2 ≠ gb157) ∧ (gb158 ≠ s_.2.2) ∧ (s_.2.2 ≠ gb158) ∧ (Below w.heap.size w w')) ?_ ?_
         rotate_left
         ·intro hCont
          refine two_ (i := 1) (j := 5) (Ni := some 26) (Nj := some 6) (bs 8 4) (bm 8 45) rfl rfl rfl rfl (two_of HT_.out (by kernel_rfl)) (by decide) (by decide) (fun K hK => ?_) (fun K hK => ?_)
          ·skip
           refine gs_ Try.func117 #[.agg #[.int .i64 a0_0, .slice A0_1 l0_1.length c0_1]] ?_
           with_reducible refine (impl_copySlab.calls a0_0 _ _ l0_1 t161 t162 _ ?side1 ?side2 A23.out).mono ?_
           (case side1 => repeat (first | exact (Kd.C_below HR0_1.out HB.out) | (with_reducible refine Kd.C_alloc ?_ _) | (with_reducible refine Kd.C_drewN ?_ _) | (with_reducible refine Kd.C_drew ?_)))
           (case side2 => exact HC0_1.out)
           rintro e w32 ⟨v163, rfl, ho0, hb⟩
           refine ⟨_, rfl, ?_⟩
           have HO164 := Aside0.mk (Kd.R_lower ho0 (below_size (bf_ HB))); replace BK157 := bb_ BK157 hb; replace BK158 := bb_ BK158 hb; replace HB := Aside0.mk (below_step (bf_ HB) hb); (try clear hb); (try clear hb2); (try clear hk); (try clear hi); (try clear ho0)
           refine hK.out _ _ ⟨bt_ BK157 0, bt_ BK157 1⟩ (fun hHeld => ?_)
           clear hK K
           refine norm_ (a' := ?_) ?_ ?_
           rotate_left
           ·show Act.put _ (some 26) _ = _
            simp only [Act.put, ls0_, ls1_, ls2_, i64_w, i32_w]
            rfl
           refine two_ (i := 4) (j := 5) (Ni := some 29) (Nj := some 6) (bs 8 5) (bm 8 47) rfl rfl rfl rfl (two_of HT_.out (by kernel_rfl)) (by decide) (by decide) (fun K hK => ?_) (fun K hK => ?_)
           ·skip
            refine gs_ Try.func51 #[.agg #[.int .i64 a0_0, .slice A0_1 l0_1.length c0_1], .int .i64 a1] ?_
            with_reducible refine (impl_Slab_chain.calls kj4 a0_0 _ _ l0_1 a1 t165 _ ?side1 ?side2 A24.out).mono ?_
            (case side1 => repeat (first | exact (Kd.C_below HR0_1.out HB.out) | (with_reducible refine Kd.C_alloc ?_ _) | (with_reducible refine Kd.C_drewN ?_ _) | (with_reducible refine Kd.C_drew ?_)))
            (case side2 => exact HC0_1.out)
            rintro e w33 ⟨v166, rfl, ho0, hb⟩
            refine ⟨_, rfl, ?_⟩
            have HO167 := Aside0.mk (Kd.R_lower (Kd.R_new' ho0 (Kd.R_lt (kr_ HO164))) (below_size (bf_ HB))); replace HO164 := Aside0.mk (Kd.R_elder' (kr_ HO164) (Kd.R_base ho0) hb); replace BK157 := bb_ BK157 hb; replace BK158 := bb_ BK158 hb; replace HB := Aside0.mk (below_step (bf_ HB) hb); (try clear hb); (try clear hb2); (try clear hk); (try clear hi); (try clear ho0)
            refine hK.out _ _ ⟨bt_ BK157 0, bt_ BK157 1⟩ (fun hHeld => ?_)
            clear hK K
            refine norm_ (a' := ?_) ?_ ?_
            rotate_left
            ·show Act.put _ (some 29) _ = _
             simp only [Act.put, ls0_, ls1_, ls2_, i64_w, i32_w]
             rfl
            refine on_ 5 (some 6) (bs 8 6) HT_ (fun K hK => ?_)
            refine box_step ?hg (N := 6) ?hd (cs := #[.int .i64 0, .slice none 0 0]) (t := 27) ?hr ?_; (case hd => rfl); (case hg => rfl); (case hr => first | (go_simp; done) | (go_simp; rfl))
            intro gb168 hg w34 hbox hb
            replace HO164 := Aside0.mk (Kd.R_below (kr_ HO164) hb); replace HO167 := Aside0.mk (Kd.R_below (kr_ HO167) hb); have BK168 := Aside0.mk (hbox); have GW168 := gw_ HB hg; have GE168 := gw_ HB hg; replace HB := Aside0.mk (below_step (bf_ HB) hb); have NB157_168 := nl_ BK157 hg; have NB168_157 := ng_ BK157 hg; replace BK157 := bb_ BK157 hb; have NB158_168 := nl_ BK158 hg; have NB168_158 := ng_ BK158 hg; replace BK158 := bb_ BK158 hb; clear hb hbox hg
            refine hK.out _ _ ⟨bt_ BK157 0, bt_ BK157 1⟩ (fun hHeld => ?_)
            clear hK K
            refine norm_ (a' := ?_) ?_ ?_
            rotate_left
            ·show Act.put _ (some 6) _ = _
             simp only [Act.put, ls0_, ls1_, ls2_, i64_w, i32_w]
             rfl
            exact norm_ (by simp only [putAll, Act.put, ls0_, ls1_, ls2_]) (hCont (v163, v166, gb168) _ ⟨hHeld, (by (with_reducible repeat (first | apply Kd.R_alloc | apply Kd.R_drewN | apply Kd.R_drew)); exact Kd.R_mono HO164.out (fun _ hk => by first | exact hk.2 | grind)), (by (with_reducible repeat (first | apply Kd.R_alloc | apply Kd.R_drewN | apply Kd.R_drew)); exact Kd.R_mono HO167.out (fun _ hk => by first | exact hk.2 | grind)), (bk_ BK157), (bk_ BK158), (bk_ BK168), GW168.out, GE168.out, NB157_168.out, NB168_157.out, NB158_168.out, NB168_158.out, (bf_ HB)⟩)
           ·skip
            refine box_step ?hg (N := 6) ?hd (cs := #[.int .i64 0, .slice none 0 0]) (t := 27) ?hr ?_; (case hd => rfl); (case hg => rfl); (case hr => first | (go_simp; done) | (go_simp; rfl))
            intro gb168 hg w33 hbox hb
            replace HO164 := Aside0.mk (Kd.R_below (kr_ HO164) hb); have BK168 := Aside0.mk (hbox); have GW168 := gw_ HB hg; have GE168 := gw_ HB hg; replace HB := Aside0.mk (below_step (bf_ HB) hb); have NB157_168 := nl_ BK157 hg; have NB168_157 := ng_ BK157 hg; replace BK157 := bb_ BK157 hb; have NB158_168 := nl_ BK158 hg; have NB168_158 := ng_ BK158 hg; replace BK158 := bb_ BK158 hb; clear hb hbox hg
            refine hK.out _ _ ⟨bt_ BK157 0, bt_ BK157 1⟩ (fun hHeld => ?_)
            clear hK K
            refine norm_ (a' := ?_) ?_ ?_
            rotate_left
            ·show Act.put _ (some 6) _ = _
             simp only [Act.put, ls0_, ls1_, ls2_, i64_w, i32_w]
             rfl
            refine on_ 4 (some 29) (bs 8 6) HT_ (fun K hK => ?_)
            refine gs_ Try.func51 #[.agg #[.int .i64 a0_0, .slice A0_1 l0_1.length c0_1], .int .i64 a1] ?_
            with_reducible refine (impl_Slab_chain.calls kj4 a0_0 _ _ l0_1 a1 t165 _ ?side1 ?side2 A24.out).mono ?_
            (case side1 => repeat (first | exact (Kd.C_below HR0_1.out HB.out) | (with_reducible refine Kd.C_alloc ?_ _) | (with_reducible refine Kd.C_drewN ?_ _) | (with_reducible refine Kd.C_drew ?_)))
            (case side2 => exact HC0_1.out)
            rintro e w34 ⟨v166, rfl, ho0, hb⟩
            refine ⟨_, rfl, ?_⟩
            have HO167 := Aside0.mk (Kd.R_lower (Kd.R_new' ho0 (Kd.R_lt (kr_ HO164))) (below_size (bf_ HB))); replace HO164 := Aside0.mk (Kd.R_elder' (kr_ HO164) (Kd.R_base ho0) hb); replace BK157 := bb_ BK157 hb; replace BK158 := bb_ BK158 hb; replace BK168 := bb_ BK168 hb; replace HB := Aside0.mk (below_step (bf_ HB) hb); (try clear hb); (try clear hb2); (try clear hk); (try clear hi); (try clear ho0)
            refine hK.out _ _ ⟨bt_ BK157 0, bt_ BK157 1⟩ (fun hHeld => ?_)
            clear hK K
            refine norm_ (a' := ?_) ?_ ?_
            rotate_left
            ·show Act.put _ (some 29) _ = _
             simp only [Act.put, ls0_, ls1_, ls2_, i64_w, i32_w]
             rfl
            exact norm_ (by simp only [putAll, Act.put, ls0_, ls1_, ls2_]) (hCont (v163, v166, gb168) _ ⟨hHeld, (by (with_reducible repeat (first | apply Kd.R_alloc | apply Kd.R_drewN | apply Kd.R_drew)); exact Kd.R_mono HO164.out (fun _ hk => by first | exact hk.2 | grind)), (by (with_reducible repeat (first | apply Kd.R_alloc | apply Kd.R_drewN | apply Kd.R_drew)); exact Kd.R_mono HO167.out (fun _ hk => by first | exact hk.2 | grind)), (bk_ BK157), (bk_ BK158), (bk_ BK168), GW168.out, GE168.out, NB157_168.out, NB168_157.out, NB158_168.out, NB168_158.out, (bf_ HB)⟩)
          ·skip
           refine box_step ?hg (N := 6) ?hd (cs := #[.int .i64 0, .slice none 0 0]) (t := 27) ?hr ?_; (case hd => rfl); (case hg => rfl); (case hr => first | (go_simp; done) | (go_simp; rfl))
           intro gb168 hg w32 hbox hb
           have BK168 := Aside0.mk (hbox); have GW168 := gw_ HB hg; have GE168 := gw_ HB hg; replace HB := Aside0.mk (below_step (bf_ HB) hb); have NB157_168 := nl_ BK157 hg; have NB168_157 := ng_ BK157 hg; replace BK157 := bb_ BK157 hb; have NB158_168 := nl_ BK158 hg; have NB168_158 := ng_ BK158 hg; replace BK158 := bb_ BK158 hb; clear hb hbox hg
           refine hK.out _ _ ⟨bt_ BK157 0, bt_ BK157 1⟩ (fun hHeld => ?_)
           clear hK K
           refine norm_ (a' := ?_) ?_ ?_
           rotate_left
           ·show Act.put _ (some 6) _ = _
            simp only [Act.put, ls0_, ls1_, ls2_, i64_w, i32_w]
            rfl
           refine on_ 1 (some 26) (bm 8 47) HT_ (fun K hK => ?_)
           refine gs_ Try.func117 #[.agg #[.int .i64 a0_0, .slice A0_1 l0_1.length c0_1]] ?_
           with_reducible refine (impl_copySlab.calls a0_0 _ _ l0_1 t161 t162 _ ?side1 ?side2 A23.out).mono ?_
           (case side1 => repeat (first | exact (Kd.C_below HR0_1.out HB.out) | (with_reducible refine Kd.C_alloc ?_ _) | (with_reducible refine Kd.C_drewN ?_ _) | (with_reducible refine Kd.C_drew ?_)))
           (case side2 => exact HC0_1.out)
           rintro e w33 ⟨v163, rfl, ho0, hb⟩
           refine ⟨_, rfl, ?_⟩
           have HO164 := Aside0.mk (Kd.R_lower ho0 (below_size (bf_ HB))); replace BK157 := bb_ BK157 hb; replace BK158 := bb_ BK158 hb; replace BK168 := bb_ BK168 hb; replace HB := Aside0.mk (below_step (bf_ HB) hb); (try clear hb); (try clear hb2); (try clear hk); (try clear hi); (try clear ho0)
           refine hK.out _ _ ⟨bt_ BK157 0, bt_ BK157 1⟩ (fun hHeld => ?_)
           clear hK K
           refine norm_ (a' := ?_) ?_ ?_
           rotate_left
           ·show Act.put _ (some 26) _ = _
            simp only [Act.put, ls0_, ls1_, ls2_, i64_w, i32_w]
            rfl
           refine on_ 4 (some 29) (bs 8 6) HT_ (fun K hK => ?_)
           refine gs_ Try.func51 #[.agg #[.int .i64 a0_0, .slice A0_1 l0_1.length c0_1], .int .i64 a1] ?_
           with_reducible refine (impl_Slab_chain.calls kj4 a0_0 _ _ l0_1 a1 t165 _ ?side1 ?side2 A24.out).mono ?_
           (case side1 => repeat (first | exact (Kd.C_below HR0_1.out HB.out) | (with_reducible refine Kd.C_alloc ?_ _) | (with_reducible refine Kd.C_drewN ?_ _) | (with_reducible refine Kd.C_drew ?_)))
           (case side2 => exact HC0_1.out)
           rintro e w34 ⟨v166, rfl, ho0, hb⟩
           refine ⟨_, rfl, ?_⟩
           have HO167 := Aside0.mk (Kd.R_lower (Kd.R_new' ho0 (Kd.R_lt (kr_ HO164))) (below_size (bf_ HB))); replace HO164 := Aside0.mk (Kd.R_elder' (kr_ HO164) (Kd.R_base ho0) hb); replace BK157 := bb_ BK157 hb; replace BK158 := bb_ BK158 hb; replace BK168 := bb_ BK168 hb; replace HB := Aside0.mk (below_step (bf_ HB) hb); (try clear hb); (try clear hb2); (try clear hk); (try clear hi); (try clear ho0)
           refine hK.out _ _ ⟨bt_ BK157 0, bt_ BK157 1⟩ (fun hHeld => ?_)
           clear hK K
           refine norm_ (a' := ?_) ?_ ?_
           rotate_left
           ·show Act.put _ (some 29) _ = _
            simp only [Act.put, ls0_, ls1_, ls2_, i64_w, i32_w]
            rfl
           exact norm_ (by simp only [putAll, Act.put, ls0_, ls1_, ls2_]) (hCont (v163, v166, gb168) _ ⟨hHeld, (by (with_reducible repeat (first | apply Kd.R_alloc | apply Kd.R_drewN | apply Kd.R_drew)); exact Kd.R_mono HO164.out (fun _ hk => by first | exact hk.2 | grind)), (by (with_reducible repeat (first | apply Kd.R_alloc | apply Kd.R_drewN | apply Kd.R_drew)); exact Kd.R_mono HO167.out (fun _ hk => by first | exact hk.2 | grind)), (bk_ BK157), (bk_ BK158), (bk_ BK168), GW168.out, GE168.out, NB157_168.out, NB168_157.out, NB158_168.out, NB168_158.out, (bf_ HB)⟩)
         rintro ⟨v163, v166, gb168⟩ w35 ⟨hS_, h0_, h1_, h2_, h3_, h4_, h5_, h6_, h7_, h8_, h9_, h10_, h11_⟩
         have n0_ : Aside0 (Kd.R (Kd.int .i64) 3 w35 w.heap.size (fun k_ => some k_ ≠ (v166 : Value).ownBlock) v163 t162) := ⟨h0_⟩
         have n1_ : Aside0 (Kd.R (Kd.int .i64) 3 w35 w.heap.size (fun k_ => some k_ ≠ (v163 : Value).ownBlock) v166 t165) := ⟨h1_⟩
         have n2_ : Aside0 (w35.heap[gb157]? = some (.cells #[.int .i64 a0_0, .slice A0_1 l0_1.length c0_1] 27 (0, 0))) := ⟨h2_⟩
         have n3_ : Aside0 (w35.heap[gb158]? = some (.cells #[.int .i64 0, .slice none 0 0] 27 (0, 0))) := ⟨h3_⟩
         have n4_ : Aside0 (w35.heap[gb168]? = some (.cells #[.int .i64 0, .slice none 0 0] 27 (0, 0))) := ⟨h4_⟩
         have n5_ : Aside0 (w.heap.size ≤ gb168) := ⟨h5_⟩
         have n6_ : Aside0 (w.heap.size ≤ gb168) := ⟨h6_⟩
         have n7_ : Aside0 (gb157 ≠ gb168) := ⟨h7_⟩
         have n8_ : Aside0 (gb168 ≠ gb157) := ⟨h8_⟩
         have n9_ : Aside0 (gb158 ≠ gb168) := ⟨h9_⟩
         have n10_ : Aside0 (gb168 ≠ gb158) := ⟨h10_⟩
         have n11_ : Aside0 (Below w.heap.size w w35) := ⟨h11_⟩
         clear BK157 BK158 HB h0_ h1_ h2_ h3_ h4_ h5_ h6_ h7_ h8_ h9_ h10_ h11_; have HO164 := n0_; have HO167 := n1_; have BK157 := n2_; have BK158 := n3_; have BK168 := n4_; have GW168 := n5_; have GE168 := n6_; have NB157_168 := n7_; have NB168_157 := n8_; have NB158_168 := n9_; have NB168_158 := n10_; have HB := n11_; clear n0_ n1_ n2_ n3_ n4_ n5_ n6_ n7_ n8_ n9_ n10_ n11_
         have hHeld : w35.cell? ⟨gb157, 0, none⟩ = some (.int .i64 a0_0) ∧ w35.cell? ⟨gb157, 1, none⟩ = some (.slice A0_1 l0_1.length c0_1) := hS_
         obtain ⟨Ao37, co37, eo37⟩ := Kd.R_slice HO164.out
         (first | subst eo37 | (injection eo37 with f1_ f2_ f3_; have f4_ := f1_.symm; have f5_ := f3_.symm; clear f1_ f2_ f3_; subst f4_; subst f5_))
         refine norm_ (a' := ?_) ?_ ?_
         rotate_left
         ·simp only [putAll, Act.put, ls0_, ls1_, ls2_]
          rfl
         refine on_ 6 none (bs 8 7) HT_ (fun K hK => ?_)
         have hs36 := bc_ BK168 0 (.int .i64 0) rfl; have hfs36 := blk_frozen BK168.out 0; have hns36_0 := NB157_168.out; have hns36_1 := NB158_168.out; have hms36_0 := NB168_157.out; have hms36_1 := NB168_158.out; have hs38 := bc_ BK168 1 (.slice none 0 0) rfl; have hfs38 := blk_frozen BK168.out 1; have hns38_0 := NB157_168.out; have hns38_1 := NB158_168.out; have hms38_0 := NB168_157.out; have hms38_1 := NB168_158.out
         refine skip_ (w1 := ?_) (by rfl) rfl ?_ ?_
         rotate_left
         ·go_simp
          rfl
         refine hK.out _ _ ⟨(cf2_ NB157_168.out hHeld.1), (cf2_ NB157_168.out hHeld.2)⟩ (fun hHeld => ?_)
         clear hK K
         refine ps_ 7 7 (bs 8 8) HT_ ?_
         refine done_ (done_of HT_.out (by kernel_rfl)) ?_
         try go_wp2
         generalize hW_ : ((w35.setCell ⟨gb168, 0, none⟩ (.int .i64 t161)).setCell ⟨gb168, 1, none⟩ (.slice Ao37 t162.length co37)) = w39
         replace HO164 : Aside0 (Kd.R (Kd.int .i64) 3 w39 w.heap.size (fun k_ => some k_ ≠ (v166 : Value).ownBlock) (.slice Ao37 t162.length co37) t162) := ⟨by cases hW_; (with_reducible repeat (first | apply Kd.R_alloc | apply Kd.R_drewN | apply Kd.R_drew)); exact Kd.R_mono (Kd.R_far (p := ⟨gb168, 1, none⟩) (Kd.R_far (p := ⟨gb168, 0, none⟩) (Kd.R_types HO164.out BK168.out (by decide)) (fun _ hk => by first | exact hk.2 | grind) (.int .i64 t161)) (fun _ hk => by first | exact hk.2 | grind) (.slice Ao37 t162.length co37)) (fun _ hk => by first | exact hk.1 | grind)⟩
         replace HO167 : Aside0 (Kd.R (Kd.int .i64) 3 w39 w.heap.size (fun k_ => some k_ ≠ (.slice Ao37 t162.length co37 : Value).ownBlock) v166 t165) := ⟨by cases hW_; (with_reducible repeat (first | apply Kd.R_alloc | apply Kd.R_drewN | apply Kd.R_drew)); exact Kd.R_mono (Kd.R_far (p := ⟨gb168, 1, none⟩) (Kd.R_far (p := ⟨gb168, 0, none⟩) (Kd.R_types HO167.out BK168.out (by decide)) (fun _ hk => by first | exact hk.2 | grind) (.int .i64 t161)) (fun _ hk => by first | exact hk.2 | grind) (.slice Ao37 t162.length co37)) (fun _ hk => by first | exact hk.1 | grind)⟩
         replace BK157 := fc2_ hW_ BK157 NB157_168
         replace BK158 := fc2_ hW_ BK158 NB158_168
         replace BK168 : Aside0 (w39.heap[gb168]? = some (.cells #[.int .i64 t161, .slice Ao37 t162.length co37] 27 (0, 0))) := pc2_ hW_ BK168
         replace HB : Aside0 (Below w.heap.size w w39) := ⟨by cases hW_; exact bf_ HB⟩
         clear hW_; replace HO164 := Aside0.mk (Kd.R_drew HO164.out); replace HO167 := Aside0.mk (Kd.R_drew HO167.out); replace BK157 := Aside0.mk (blk_drew BK157.out); replace BK158 := Aside0.mk (blk_drew BK158.out); replace BK168 := Aside0.mk (blk_drew BK168.out); replace HB := Aside0.mk (below_drew1 HB.out)
         obtain ⟨Ao41, co41, eo41⟩ := Kd.R_slice HO167.out
         (first | subst eo41 | (injection eo41 with f1_ f2_ f3_; have f4_ := f1_.symm; have f5_ := f3_.symm; clear f1_ f2_ f3_; subst f4_; subst f5_))
         have p169 : 0 ≤ ((ji25) : Int) := od_
         have q169 : (ji25) < (t165.length : Int) := od_
         obtain ⟨ad169, e169, hx169_0⟩ := Kd.at_int (Kd.R_reads' HO167.out).2.2 (ji25) p169 q169
         cases e169
         replace p169 := eq_true p169
         replace q169 := eq_true q169
         have p30 : 0 ≤ ((rd t165 (ji25)) : Int) := od_
         have q30 : ((rd t165 (ji25)) : Int) < ((t162.length : Int) : Int) := od_
         obtain ⟨go30, co30, eo30, gb30, gl30, cl30, HG30⟩ := Kd.R_form HO164.out (by omega)
         (first | cases eo30 | (injection eo30 with ea_ en_ ec_; (first | subst ea_ | (injection ea_ with ea_; subst ea_)); subst ec_; clear en_))
         have GB30 := Aside0.mk gb30
         have GG30 := Aside0.mk HG30
         clear gb30 gl30 HG30
         obtain ⟨hx30_0, hf30_0⟩ := Kd.R_celln 0 HO164.out ((rd t165 (ji25)) : Int) p30 q30
         replace p30 := eq_true p30
         replace q30 := eq_true q30
         have HP42 := Kd.R_putn HO164.out ((rd t165 (ji25)) : Int) a0_0
         rw [← Ny170.out] at HP42
         have HQ42 := Aside0.mk HP42
         clear HP42
         refine start_ (n := 15) (S := fun w' => cw_ w' gb168 0 (.int .i64 t161) ∧ cw_ w' gb168 1 (.slice (some ⟨go30, 0, none⟩) t162.length co37) ∧ cw_ w' gb157 0 (.int .i64 a0_0) ∧ cw_ w' gb157 1 (.slice A0_1 l0_1.length c0_1) ∧ w'.cell? (ad169.add ((ji25)).toNat) = some (.int .i64 (rd t165 (ji25)))) (ds := [12, 14]) (bs 15 0) (by kernel_rfl) rfl rfl ⟨bt_ BK168 0, bt_ BK168 1, bt_ BK157 0, bt_ BK157 1, hx169_0⟩ (fun hHeld => ?_); refine with_tabW impl_SlabGive.tab6 impl_SlabGive.bits6 (fun HT_ HW_ => ?_)
         generalize w39.drew = w40 at HO164 HO167 BK157 BK158 BK168 HB GG30 HQ42 hf30_0 hx169_0 hx30_0 hHeld ⊢
         refine ps_ 0 30 (bs 15 1) HT_ ?_
         refine ps_ 2 32 (bm 15 5) HT_ ?_
         refine ps_ 3 33 (bm 15 13) HT_ ?_
         refine ps_ 4 34 (bm 15 29) HT_ ?_
         refine ps_ 5 35 (bm 15 61) HT_ ?_
         refine ps_ 6 36 (bm 15 125) HT_ ?_
         refine ps_ 8 38 (bm 15 381) HT_ ?_
         refine ps_ 10 40 (bm 15 1405) HT_ ?_
         refine tk_ 1 31 (bm 15 1407) HT_ HW_ hHeld ?_
         refine tk_ 7 37 (bm 15 1535) HT_ HW_ hHeld ?_
         refine tk_ 9 39 (bs 15 11) HT_ HW_ hHeld ?_
         refine ps_ 11 41 (bs 15 12) HT_ ?_
         refine last_ (i := 12) (N := none) (bs 15 13) rfl rfl (one_of HT_.out (by kernel_rfl)) (by decide) (fun K hK => ?_)
         refine skip_ (w1 := ?_) (by rfl) rfl ?_ ?_
         rotate_left
         ·go_simp
          rfl
         refine hK.out _ _ ?_
         clear hK K
         refine ps_ 13 42 (bs 15 14) HT_ ?_
         refine last_ (i := 14) (N := none) (bs 15 15) rfl rfl (one_of HT_.out (by kernel_rfl)) (by decide) (fun K hK => ?_)
         have hs43 := bc_ BK168 0 (.int .i64 t161) rfl; have hfs43 := blk_frozen BK168.out 0; have hns43_0 := NB157_168.out; have hns43_1 := NB158_168.out; have hms43_0 := NB168_157.out; have hms43_1 := NB168_158.out
         have hps43_0 : gb168 ≠ go30 := fun e_ => Kd.R_ne HO164.out BK168.out (by decide) (by rw [e_]; rfl)
         have hps43_0s := Ne.symm hps43_0
         refine skip_ (w1 := ?_) (by rfl) rfl ?_ ?_
         rotate_left
         ·go_simp
          rfl
         refine hK.out _ _ ?_
         clear hK K
         refine done_ (done_of HT_.out (by kernel_rfl)) ?_
         have n0_ : Aside0 (Kd.R (Kd.int .i64) 3 ((w40.setCell ⟨go30, ((rd t165 (ji25)) : Int).toNat, none⟩ (.int .i64 a0_0)).setCell ⟨gb168, 0, none⟩ (.int .i64 a1)) w.heap.size (fun k_ => some k_ ≠ (.slice (some ad169) t165.length co41 : Value).ownBlock) (.slice (some ⟨go30, 0, none⟩) t162.length co37) y170) := ⟨by (with_reducible repeat (first | apply Kd.R_alloc | apply Kd.R_drewN | apply Kd.R_drew)); exact Kd.R_mono (Kd.R_far (p := ⟨gb168, 0, none⟩) (Kd.R_types HQ42.out (blk_far BK168.out (fun e_ => Kd.R_ne HO164.out BK168.out (by decide) (by rw [e_]; rfl)) _) (by decide)) (fun _ hk => by first | exact hk.2 | grind) (.int .i64 a1)) (fun _ hk => by first | exact hk.1 | grind)⟩
         have n1_ : Aside0 (Kd.R (Kd.int .i64) 3 ((w40.setCell ⟨go30, ((rd t165 (ji25)) : Int).toNat, none⟩ (.int .i64 a0_0)).setCell ⟨gb168, 0, none⟩ (.int .i64 a1)) w.heap.size (fun k_ => some k_ ≠ (.slice (some ⟨go30, 0, none⟩) t162.length co37 : Value).ownBlock) (.slice (some ad169) t165.length co41) t165) := ⟨by (with_reducible repeat (first | apply Kd.R_alloc | apply Kd.R_drewN | apply Kd.R_drew)); exact Kd.R_mono (Kd.R_far (p := ⟨gb168, 0, none⟩) (Kd.R_far (p := ⟨go30, ((rd t165 (ji25)) : Int).toNat, none⟩) (Kd.R_types (Kd.R_mono HO167.out (fun k_ hk => by first | exact (⟨hk, fun e_ => hk (by rw [e_]; rfl)⟩ : _ ∧ k_ ≠ go30) | grind)) BK168.out (by decide)) (fun _ hk => by first | exact hk.1.2 | grind) (.int .i64 a0_0)) (fun _ hk => by first | exact hk.2 | grind) (.int .i64 a1)) (fun _ hk => by first | exact hk.1.1 | grind)⟩
         have n2_ : Aside0 (((w40.setCell ⟨go30, ((rd t165 (ji25)) : Int).toNat, none⟩ (.int .i64 a0_0)).setCell ⟨gb168, 0, none⟩ (.int .i64 a1)).heap[gb157]? = some (.cells #[.int .i64 a0_0, .slice A0_1 l0_1.length c0_1] 27 (0, 0))) := ⟨by (with_reducible repeat (first | refine blk_drewN ?_ _ | refine blk_drew ?_ | refine blk_alloc ?_ _)); refine blk_far ?_ NB157_168.out _; (with_reducible repeat (first | refine blk_drewN ?_ _ | refine blk_drew ?_ | refine blk_alloc ?_ _)); refine blk_far ?_ (by have h_ := Kd.R_ne HO164.out BK157.out (by decide); intro e_; exact h_ (by rw [e_]; rfl)) _; exact bk_ BK157⟩
         have n3_ : Aside0 (((w40.setCell ⟨go30, ((rd t165 (ji25)) : Int).toNat, none⟩ (.int .i64 a0_0)).setCell ⟨gb168, 0, none⟩ (.int .i64 a1)).heap[gb158]? = some (.cells #[.int .i64 0, .slice none 0 0] 27 (0, 0))) := ⟨by (with_reducible repeat (first | refine blk_drewN ?_ _ | refine blk_drew ?_ | refine blk_alloc ?_ _)); refine blk_far ?_ NB158_168.out _; (with_reducible repeat (first | refine blk_drewN ?_ _ | refine blk_drew ?_ | refine blk_alloc ?_ _)); refine blk_far ?_ (by have h_ := Kd.R_ne HO164.out BK158.out (by decide); intro e_; exact h_ (by rw [e_]; rfl)) _; exact bk_ BK158⟩
         have n4_ : Aside0 (((w40.setCell ⟨go30, ((rd t165 (ji25)) : Int).toNat, none⟩ (.int .i64 a0_0)).setCell ⟨gb168, 0, none⟩ (.int .i64 a1)).heap[gb168]? = some (.cells #[.int .i64 a1, .slice (some ⟨go30, 0, none⟩) t162.length co37] 27 (0, 0))) := ⟨by (with_reducible repeat (first | refine blk_drewN ?_ _ | refine blk_drew ?_ | refine blk_alloc ?_ _)); refine blk_put (cs := #[.int .i64 t161, .slice (some ⟨go30, 0, none⟩) t162.length co37]) ?_ 0 _ rfl; (with_reducible repeat (first | refine blk_drewN ?_ _ | refine blk_drew ?_ | refine blk_alloc ?_ _)); refine blk_far ?_ (by have h_ := Kd.R_ne HO164.out BK168.out (by decide); intro e_; exact h_ (by rw [e_]; rfl)) _; exact bk_ BK168⟩
         have n5_ : Aside0 (Below w.heap.size w ((w40.setCell ⟨go30, ((rd t165 (ji25)) : Int).toNat, none⟩ (.int .i64 a0_0)).setCell ⟨gb168, 0, none⟩ (.int .i64 a1))) := ⟨by repeat (first | (with_reducible first | exact HB.out | apply below_alloc | apply pw_below_drewN | apply below_drew1 | refine below_set ?_ GB30.out | refine below_set ?_ GE157.out | refine below_set ?_ GE158.out | refine below_set ?_ GE168.out) | exact HB.out)⟩
         (try clear HO164); (try clear HO167); (try clear BK157); (try clear BK158); (try clear BK168); (try clear HB)
         generalize ((w40.setCell ⟨go30, ((rd t165 (ji25)) : Int).toNat, none⟩ (.int .i64 a0_0)).setCell ⟨gb168, 0, none⟩ (.int .i64 a1)) = w44 at n0_ n1_ n2_ n3_ n4_ n5_ ⊢
         have HO164 := n0_; have HO167 := n1_; have BK157 := n2_; have BK158 := n3_; have BK168 := n4_; have HB := n5_; clear n0_ n1_ n2_ n3_ n4_ n5_; have hnb45 := NB168_157.out; have hnc45 := NB157_168.out; have hnb46 := NB168_158.out; have hnc46 := NB158_168.out; have hcz47_0 := bc_ BK168 0 (.int .i64 a1) rfl
         have hcz47_1 := bc_ BK168 1 (.slice (some ⟨go30, 0, none⟩) t162.length co37) rfl
         have hfz47_0 := blk_frozen BK168.out 0; have hfz47_1 := blk_frozen BK168.out 1; have hnb48 := NB158_157.out; have hnc48 := NB157_158.out; obtain ⟨hcz49_0, hcz49_1, hfz49_0, hfz49_1⟩ := bz2_ BK158
         try go_wp2
         refine bodyPost_ret (results_ct rfl _ _ gb158 27 #[.int .i64 a1, .slice (some ⟨go30, 0, none⟩) t162.length co37] (0, 0) _ rfl (by (with_reducible repeat (first | refine blk_drewN ?_ _ | refine blk_drew ?_ | refine blk_alloc ?_ _)); refine blk_put (cs := #[.int .i64 a1, .slice none 0 0]) ?_ 1 _ rfl; (with_reducible repeat (first | refine blk_drewN ?_ _ | refine blk_drew ?_ | refine blk_alloc ?_ _)); refine blk_put (cs := #[.int .i64 0, .slice none 0 0]) ?_ 0 _ rfl; exact bk_ BK158) Try.underlying27 rfl (by kernel_rfl)) rfl ?_
         exact ⟨_, by first | rfl | (simp [errW_none, errW_some] <;> rfl) | (simp only [← hji25]; first | rfl | (simp [errW_none, errW_some] <;> rfl)) | (simp [*, errW_none, errW_some] <;> rfl), by (with_reducible repeat (first | apply Kd.R_alloc | apply Kd.R_drewN | apply Kd.R_drew)); exact Kd.R_mono (Kd.R_far (p := ⟨gb158, 1, none⟩) (Kd.R_far (p := ⟨gb158, 0, none⟩) (Kd.R_types HO164.out BK158.out (by decide)) (fun _ hk => by first | exact hk.2 | grind) (.int .i64 a1)) (fun _ hk => by first | exact hk.2 | grind) (.slice (some ⟨go30, 0, none⟩) t162.length co37)) (fun _ hk => by first | exact trivial | grind), bf_ HB⟩
        ·rw [if_neg c29] at H
         exact absurd H (by simp)
       ·rw [if_neg c28] at H
        exact absurd H (by simp)
      ·rw [if_neg c27] at H
       exact absurd H (by simp)
     ·rw [if_neg c26] at H
      exact absurd H (by simp)
 ·replace c4 := Bool.eq_false_iff.mpr c4
  subst c4
  have H1 : (some (0, ([] : List Int), 1)) = some (r1, r2, r3) := by rw [if_neg (show ¬ (false = true) by decide)] at H; exact H
  clear H
  have H := H1
  clear H1
  simp only [Option.some.injEq, Prod.mk.injEq] at H
  obtain ⟨rfl, rfl, rfl⟩ := H
  go_enter Try.func48, Try.ntmps48
  go_wp2_with (first | ((with_reducible refine gd_ 2 rfl ?_); refine bv_ 2 #[.int .i64 a0_0, .slice A0_1 l0_1.length c0_1] 27 ?_; intro gb157 hg w50 hbox hb; have BK157 := Aside0.mk (hbox); have GW157 := gw_ HB hg; have GE157 := gw_ HB hg; replace HB := Aside0.mk (below_step (be_ HB) hb); clear hb hbox hg) | ((with_reducible refine gd_ 4 rfl ?_); refine bv_ 4 #[.int .i64 0, .slice none 0 0] 27 ?_; intro gb158 hg w51 hbox hb; have BK158 := Aside0.mk (hbox); have GW158 := gw_ HB hg; have GE158 := gw_ HB hg; replace HB := Aside0.mk (below_step (bf_ HB) hb); have NB157_158 := nl_ BK157 hg; have NB158_157 := ng_ BK157 hg; replace BK157 := bb_ BK157 hb; clear hb hbox hg; have hnb52 := NB157_158.out; have hnc52 := NB158_157.out; obtain ⟨hcz53_0, hcz53_1, hfz53_0, hfz53_1⟩ := bz2_ BK157) | ((with_reducible refine gc_ 53 rfl ?_); refine gl_ 10 Try.func53 #[.agg #[.int .i64 a0_0, .slice A0_1 l0_1.length c0_1]] ?_; (with_reducible refine (impl_SlabOk.calls k a0_0 _ _ l0_1 false _ ?side1 ?side2 A3.out).mono ?_); (case side1 => repeat (first | exact (Kd.C_below HR0_1.out HB.out) | (with_reducible refine Kd.C_alloc ?_ _) | (with_reducible refine Kd.C_drewN ?_ _) | (with_reducible refine Kd.C_drew ?_))); (case side2 => exact HC0_1.out); rintro e w54 ⟨rfl, hb⟩; refine ⟨_, rfl, ?_⟩; replace BK157 := bb_ BK157 hb; replace BK158 := bb_ BK158 hb; replace HB := Aside0.mk (below_step (bf_ HB) hb); (try clear hb); (try clear hb2); (try clear hk); (try clear hi); obtain ⟨hcz55_0, hcz55_1, hfz55_0, hfz55_1⟩ := bz2_ BK158))
  refine bodyPost_ret (results_ct rfl _ _ gb158 27 #[.int .i64 0, .slice none 0 0] (0, 0) _ rfl (by (with_reducible repeat (first | refine blk_drewN ?_ _ | refine blk_drew ?_ | refine blk_alloc ?_ _)); refine blk_put (cs := #[.int .i64 0, .slice none 0 0]) ?_ 1 _ rfl; (with_reducible repeat (first | refine blk_drewN ?_ _ | refine blk_drew ?_ | refine blk_alloc ?_ _)); refine blk_put (cs := #[.int .i64 0, .slice none 0 0]) ?_ 0 _ rfl; exact bk_ BK158) Try.underlying27 rfl (by kernel_rfl)) rfl ?_
  exact ⟨_, by first | rfl | (simp [errW_none, errW_some] <;> rfl) | (simp [*, errW_none, errW_some] <;> rfl), by first | exact Kd.R_nil _ _ _ _ _ | exact Kd.N_nil _ _ _ _ _ | exact Kd.V_nil _ _ _ _ _ | exact Kd.Q_nil _ _ _ _ _ | exact Kd.S_nil _ _ _ _ _, bf_ HB⟩

/-! ### slices_Clone_byte_byte: function 49 -/
def slices_Clone_byte_byte.f (l0 : List Int) : Option (List Int) := (some (([] : List Int) : List Int)).bind fun y171 => (if y171.length + l0.length < 140737488355328 then (some (y171 ++ l0)) else (none))
set_option maxHeartbeats 8000000 in
set_option maxRecDepth 100000 in
theorem slices_Clone_byte_byte.calls_some (A0 : Addr) (c0 : Nat) (l0 : List Int) (r : List Int) (w : World) (hr0 : Kd.C (Kd.int .u8) w (some A0) l0.length l0) (hc0 : l0.length ≤ c0) (h : slices_Clone_byte_byte.f l0 = some r) :
  Calls Try.prog 49 #[.slice (some A0) l0.length c0] w fun e w' => ∃ v0_ : Value, e = .returned (v0_) ∧ Kd.R (Kd.int .u8) 5 w' w.heap.size (fun _ => True) v0_ r ∧ Below w.heap.size w w' := by
 have hnil0_ := fun (W : World) (n c : Nat) => Lib.run_eql_slice_nil (P := Try.prog) W 22 5 (some A0) n c 0 0 Try.underlying22
 have HR0 := Aside0.mk hr0
 have HC0 := Aside0.mk hc0
 clear hr0 hc0; have HB := Aside0.mk (Below.refl w.heap.size w)
 have H : ((some (([] : List Int) : List Int)).bind fun y171 => (if y171.length + l0.length < 140737488355328 then (some (y171 ++ l0)) else (none))) = some r := h
 clear h
 obtain ⟨y171, hy171⟩ : ∃ y_ : List Int, y_ = (([] : List Int)) := ⟨_, rfl⟩
 replace H : (if y171.length + l0.length < 140737488355328 then (some (y171 ++ l0)) else (none)) = some r := by first | (rw [hy171]; with_reducible exact H) | (have H2_ := (Option.bind_some _ _).symm.trans H; rw [hy171]; with_reducible exact H2_) | (have H2_ := (Option.bind_some _ _).symm.trans H; with_reducible exact H2_) | with_reducible exact H | (rw [hy171]; exact H) | exact H
 have Ny171 := Aside0.mk hy171
 clear hy171
 by_cases c2 : y171.length + l0.length < 140737488355328
 ·rw [if_pos c2] at H
  have LMc2 := Aside0.mk c2
  clear c2
  obtain ⟨y174, hy174⟩ : ∃ y_ : List Int, y_ = (y171 ++ l0) := ⟨_, rfl⟩
  replace H : (some y174) = some r := by first | (rw [hy174]; with_reducible exact H) | (have H2_ := (Option.bind_some _ _).symm.trans H; rw [hy174]; with_reducible exact H2_) | (have H2_ := (Option.bind_some _ _).symm.trans H; with_reducible exact H2_) | with_reducible exact H | (rw [hy174]; exact H) | exact H
  have Ny174 := Aside0.mk hy174
  clear hy174
  obtain rfl := Option.some.inj H
  go_enter Try.func49, Try.ntmps49
  go_wp2_with (first | ((with_reducible refine gd_ 5 rfl ?_); refine Kd.R_lit (Kd.int .u8) _ 5 ?hg (N := 5) ?hd (xs := ([] : List Int)) (inner := []) (ok := fun _ => True) (okp := fun _ => True) ?hr ?hp (fun _ hk => by first | exact hk | grind) trivial (Below.refl _ _) (Nat.le_refl _) (by simp) ?_; (case hd => rfl); (case hg => rfl); (case hr => first | (go_simp; done) | (go_simp; rfl)); (case hp => exact (Reps.none _ _)); intro v172 w3 ho4 hb hg_ hnew_; clear hg_ hnew_; (first | rw [← Ny171.out] at ho4 | (simp only [Int.reduceToNat] at ho4; rw [← Ny171.out] at ho4)); have HO173 := Aside0.mk (Kd.R_lower ho4 (below_size (be_ HB))); replace HB := Aside0.mk (below_step (be_ HB) hb); clear hb ho4) | ((with_reducible refine gate_builtin (b := .append) (xs := #[.tmp 5, .tmp 6]) rfl ?_); at_builtin; refine Kd.R_append_rows (Kd.int .u8) (w0 := w) w.heap.size rfl (.tmp 5) (.tmp 6) 22 5 (.int .u8 0) 1 rfl Try.underlying22 info5 rfl (by decide) (by omega) v172 y171 l0 _ _ _ (fun _ => True) (fun _ => False) rfl rfl ?aO ?aR (fun _ _ h => h) (fun _ h => h.elim) ?aF ?aB ?aS ?aL ?_; (case aR => repeat (first | exact (Kd.C_below HR0.out HB.out) | (with_reducible refine Kd.C_alloc ?_ _) | (with_reducible refine Kd.C_drewN ?_ _) | (with_reducible refine Kd.C_drew ?_))); (case aB => exact (be_ HB)); (case aF => exact (fun _ _ => trivial)); (case aO => exact (kr_ HO173)); (case aS => exact (below_size (be_ HB))); (case aL => have := LMc2.out; omega); intro v175 w5 ho hb hg hat; rw [← Ny174.out] at ho; replace HB := Aside0.mk (hb); have HO176 := Aside0.mk (ho); clear HO173 ho hb hg hat))
  go_ret
  exact ⟨_, by first | rfl | (simp [errW_none, errW_some] <;> rfl) | (simp [*, errW_none, errW_some] <;> rfl), by (with_reducible repeat (first | apply Kd.R_alloc | apply Kd.R_drewN | apply Kd.R_drew)); exact HO176.out, be_ HB⟩
 ·rw [if_neg c2] at H
  exact absurd H (by simp)
set_option maxHeartbeats 8000000 in
set_option maxRecDepth 100000 in
theorem slices_Clone_byte_byte.calls (A0 : Option Addr) (c0 : Nat) (l0 : List Int) (r : List Int) (w : World) (hr0 : Kd.C (Kd.int .u8) w A0 l0.length l0) (hc0 : l0.length ≤ c0) (h : slices_Clone_byte_byte.f l0 = some r) :
  Calls Try.prog 49 #[.slice A0 l0.length c0] w fun e w' => ∃ v0_ : Value, e = .returned (v0_) ∧ Kd.R (Kd.int .u8) 5 w' w.heap.size (fun _ => True) v0_ r ∧ Below w.heap.size w w' := by
  cases A0 with
  | some a_ => exact slices_Clone_byte_byte.calls_some a_ c0 l0 r w hr0 hc0 h
  | none =>
    obtain rfl : l0 = [] := by
      rcases l0 with _ | ⟨x_, t_⟩
      · rfl
      · obtain ⟨ad_, h0_, _⟩ := hr0.2.2 (by simp)
        cases h0_
    obtain rfl : r = [] := by simpa [slices_Clone_byte_byte.f] using h.symm
    have hnil0_ := fun (W : World) (n c : Nat) => Lib.run_eql_slice_nil (P := Try.prog) W 22 5 none n c 0 0 Try.underlying22
    clear hr0 hc0 h
    go_enter Try.func49, Try.ntmps49
    go_wp2
    go_ret
    exact ⟨_, rfl, Kd.R_nil _ _ _ _ _, Below.refl _ _⟩

/-! ### impl_StoreGive: function 13 -/
def impl_StoreGive.f (k : Nat) (a0_0 : Int) (l0_1 : List Int) (l0_2 : List Int) (a1 : Int) : Option (Int × List Int × List Int × Int) := (impl_StoreOk.f k a0_0 l0_1 l0_2).bind fun t179 => (if t179 = true then ((impl_SlabGive.f k a0_0 l0_1 a1).bind fun bt180 => (if bt180.2.2 = 0 then ((slices_Clone_byte_byte.f l0_2).bind fun t186 => (some (bt180.1, bt180.2.1, t186, 0))) else (some (0, ([] : List Int), ([] : List Int), bt180.2.2)))) else (some (0, ([] : List Int), ([] : List Int), 1)))
theorem impl_StoreGive.mono : ∀ a0 a1 a2 a3 k, LeO (impl_StoreGive.f k a0 a1 a2 a3) (impl_StoreGive.f (k + 1) a0 a1 a2 a3) := by
 intro a0 a1 a2 a3 k
 unfold impl_StoreGive.f
 repeat' first
   | (with_reducible exact impl_SlabGive.mono _ _ _ _)
   | (with_reducible exact impl_StoreOk.mono _ _ _ _)
   | (with_reducible exact LeO.refl _)
   | (with_reducible exact LeO.none _)
   | (with_reducible refine LeO.ite ?_ ?_)
   | (with_reducible refine LeO.bind ?_ (fun _ => ?_))
   | exact impl_SlabGive.mono _ _ _ _
   | exact impl_StoreOk.mono _ _ _ _
   | exact LeO.none _
   | refine LeO.ite ?_ ?_
   | refine LeO.bind ?_ (fun _ => ?_)
set_option maxHeartbeats 8000000 in
set_option maxRecDepth 100000 in
theorem impl_StoreGive.calls (k : Nat) (a0_0 : Int) (A0_1 : Option Addr) (c0_1 : Nat) (l0_1 : List Int) (A0_2 : Option Addr) (c0_2 : Nat) (l0_2 : List Int) (a1 : Int) (r1 : Int) (r2 : List Int) (r3 : List Int) (r4 : Int) (w : World) (hr0_1 : Kd.C (Kd.int .i64) w A0_1 l0_1.length l0_1) (hc0_1 : l0_1.length ≤ c0_1) (hr0_2 : Kd.C (Kd.int .u8) w A0_2 l0_2.length l0_2) (hc0_2 : l0_2.length ≤ c0_2) (h : impl_StoreGive.f k a0_0 l0_1 l0_2 a1 = some (r1, r2, r3, r4)) :
  Calls Try.prog 13 #[.agg #[.int .i64 a0_0, .slice A0_1 l0_1.length c0_1, .slice A0_2 l0_2.length c0_2], .int .i64 a1] w fun e w' => ∃ v1_ v2_ : Value, e = .returned (.tuple #[.agg #[.int .i64 r1, v1_, v2_], .int .i64 r4]) ∧ Kd.R (Kd.int .i64) 3 w' w.heap.size (fun _ => True) v1_ r2 ∧ Kd.R (Kd.int .u8) 5 w' w.heap.size (fun _ => True) v2_ r3 ∧ Below w.heap.size w w' := by
 have hu29 := Try.underlying29; have hu27 := Try.underlying27
 have HR0_1 := Aside0.mk hr0_1
 have HC0_1 := Aside0.mk hc0_1
 clear hr0_1 hc0_1
 have HR0_2 := Aside0.mk hr0_2
 have HC0_2 := Aside0.mk hc0_2
 clear hr0_2 hc0_2; have HB := Aside0.mk (Below.refl w.heap.size w)
 have H : ((impl_StoreOk.f k a0_0 l0_1 l0_2).bind fun t179 => (if t179 = true then ((impl_SlabGive.f k a0_0 l0_1 a1).bind fun bt180 => (if bt180.2.2 = 0 then ((slices_Clone_byte_byte.f l0_2).bind fun t186 => (some (bt180.1, bt180.2.1, t186, 0))) else (some (0, ([] : List Int), ([] : List Int), bt180.2.2)))) else (some (0, ([] : List Int), ([] : List Int), 1)))) = some (r1, r2, r3, r4) := h
 clear h
 replace H := Option.bind_eq_some_iff.mp H
 obtain ⟨t179, A30, H⟩ := H
 replace H : (if t179 = true then ((impl_SlabGive.f k a0_0 l0_1 a1).bind fun bt180 => (if bt180.2.2 = 0 then ((slices_Clone_byte_byte.f l0_2).bind fun t186 => (some (bt180.1, bt180.2.1, t186, 0))) else (some (0, ([] : List Int), ([] : List Int), bt180.2.2)))) else (some (0, ([] : List Int), ([] : List Int), 1))) = some (r1, r2, r3, r4) := H
 have A3 := Aside0.mk A30
 clear A30
 by_cases c4 : t179 = true
 ·subst c4
  have H1 : ((impl_SlabGive.f k a0_0 l0_1 a1).bind fun bt180 => (if bt180.2.2 = 0 then ((slices_Clone_byte_byte.f l0_2).bind fun t186 => (some (bt180.1, bt180.2.1, t186, 0))) else (some (0, ([] : List Int), ([] : List Int), bt180.2.2)))) = some (r1, r2, r3, r4) := by rw [if_pos rfl] at H; exact H
  clear H
  have H := H1
  clear H1
  replace H := Option.bind_eq_some_iff.mp H
  obtain ⟨⟨t180, t181, t184⟩, A50, H⟩ := H
  replace H : (if t184 = 0 then ((slices_Clone_byte_byte.f l0_2).bind fun t186 => (some (t180, t181, t186, 0))) else (some (0, ([] : List Int), ([] : List Int), t184))) = some (r1, r2, r3, r4) := H
  have A5 := Aside0.mk A50
  clear A50
  by_cases c6 : t184 = 0
  ·rw [if_pos c6] at H
   have c6b0 : (t184 == 0) = true := beq_iff_eq.mpr c6
   have c6b1 : (t184 != 0) = false := bne_eq_false_iff_eq.mpr c6
   clear c6
   replace H := Option.bind_eq_some_iff.mp H
   obtain ⟨t186, A70, H⟩ := H
   replace H : (some (t180, t181, t186, 0)) = some (r1, r2, r3, r4) := H
   have A7 := Aside0.mk A70
   clear A70
   simp only [Option.some.injEq, Prod.mk.injEq] at H
   obtain ⟨rfl, rfl, rfl, rfl⟩ := H
   go_enter Try.func13, Try.ntmps13
   try go_wp2_with (first | ((with_reducible refine gd_ 2 rfl ?_); refine bv_ 2 #[.int .i64 a0_0, .slice A0_1 l0_1.length c0_1, .slice A0_2 l0_2.length c0_2] 29 ?_; intro gb177 hg w8 hbox hb; have BK177 := Aside0.mk (hbox); have GW177 := gw_ HB hg; have GE177 := gw_ HB hg; replace HB := Aside0.mk (below_step (be_ HB) hb); clear hb hbox hg) | ((with_reducible refine gd_ 4 rfl ?_); refine bv_ 4 #[.int .i64 0, .slice none 0 0, .slice none 0 0] 29 ?_; intro gb178 hg w9 hbox hb; have BK178 := Aside0.mk (hbox); have GW178 := gw_ HB hg; have GE178 := gw_ HB hg; replace HB := Aside0.mk (below_step (bf_ HB) hb); have NB177_178 := nl_ BK177 hg; have NB178_177 := ng_ BK177 hg; replace BK177 := bb_ BK177 hb; clear hb hbox hg; have hnb10 := NB177_178.out; have hnc10 := NB178_177.out; obtain ⟨hcz11_0, hcz11_1, hcz11_2, hfz11_0, hfz11_1, hfz11_2⟩ := bz3_ BK177) | ((with_reducible refine gc_ 47 rfl ?_); refine gl_ 9 Try.func47 #[.agg #[.int .i64 a0_0, .slice A0_1 l0_1.length c0_1, .slice A0_2 l0_2.length c0_2]] ?_; (with_reducible refine (impl_StoreOk.calls k a0_0 _ _ l0_1 _ _ l0_2 true _ ?side1 ?side2 ?side3 ?side4 A3.out).mono ?_); (case side1 => repeat (first | exact (Kd.C_below HR0_1.out HB.out) | (with_reducible refine Kd.C_alloc ?_ _) | (with_reducible refine Kd.C_drewN ?_ _) | (with_reducible refine Kd.C_drew ?_))); (case side2 => exact HC0_1.out); (case side3 => repeat (first | exact (Kd.C_below HR0_2.out HB.out) | (with_reducible refine Kd.C_alloc ?_ _) | (with_reducible refine Kd.C_drewN ?_ _) | (with_reducible refine Kd.C_drew ?_))); (case side4 => exact HC0_2.out); rintro e w12 ⟨rfl, hb⟩; refine ⟨_, rfl, ?_⟩; replace BK177 := bb_ BK177 hb; replace BK178 := bb_ BK178 hb; replace HB := Aside0.mk (below_step (bf_ HB) hb); (try clear hb); (try clear hb2); (try clear hk); (try clear hi); obtain ⟨hcz13_0, hcz13_1, hcz13_2, hfz13_0, hfz13_1, hfz13_2⟩ := bz3_ BK177) | ((with_reducible refine gc_ 48 rfl ?_); refine gl_ 16 Try.func48 #[.agg #[.int .i64 a0_0, .slice A0_1 l0_1.length c0_1], .int .i64 a1] ?_; (with_reducible refine (impl_SlabGive.calls k a0_0 _ _ l0_1 a1 t180 t181 t184 _ ?side1 ?side2 A5.out).mono ?_); (case side1 => repeat (first | exact (Kd.C_below HR0_1.out HB.out) | (with_reducible refine Kd.C_alloc ?_ _) | (with_reducible refine Kd.C_drewN ?_ _) | (with_reducible refine Kd.C_drew ?_))); (case side2 => exact HC0_1.out); rintro e w14 ⟨v182, rfl, ho0, hb⟩; refine ⟨_, rfl, ?_⟩; have HO183 := Aside0.mk (Kd.R_lower ho0 (below_size (bf_ HB))); replace BK177 := bb_ BK177 hb; replace BK178 := bb_ BK178 hb; replace HB := Aside0.mk (below_step (bf_ HB) hb); (try clear hb); (try clear hb2); (try clear hk); (try clear hi); (try clear ho0)) | ((with_reducible refine gd_ 6 rfl ?_); refine bv_ 6 #[.int .i64 0, .slice none 0 0] 27 ?_; intro gb185 hg w15 hbox hb; replace HO183 := Aside0.mk (Kd.R_below (kr_ HO183) hb); have BK185 := Aside0.mk (hbox); have GW185 := gw_ HB hg; have GE185 := gw_ HB hg; replace HB := Aside0.mk (below_step (bf_ HB) hb); have NB177_185 := nl_ BK177 hg; have NB185_177 := ng_ BK177 hg; replace BK177 := bb_ BK177 hb; have NB178_185 := nl_ BK178 hg; have NB185_178 := ng_ BK178 hg; replace BK178 := bb_ BK178 hb; clear hb hbox hg; have hnb16 := NB185_177.out; have hnc16 := NB177_185.out; have hnb17 := NB185_178.out; have hnc17 := NB178_185.out; obtain ⟨hcz18_0, hcz18_1, hfz18_0, hfz18_1⟩ := bz2_ BK185; obtain ⟨Ao19, co19, eo19⟩ := Kd.R_slice HO183.out; subst eo19))
   generalize hW_ : ((w15.setCell ⟨gb185, 0, none⟩ (.int .i64 t180)).setCell ⟨gb185, 1, none⟩ (.slice Ao19 t181.length co19)) = w20
   replace HO183 : Aside0 (Kd.R (Kd.int .i64) 3 w20 w.heap.size (fun _ => True) (.slice Ao19 t181.length co19) t181) := ⟨by cases hW_; (with_reducible repeat (first | apply Kd.R_alloc | apply Kd.R_drewN | apply Kd.R_drew)); exact Kd.R_mono (Kd.R_far (p := ⟨gb185, 1, none⟩) (Kd.R_far (p := ⟨gb185, 0, none⟩) (Kd.R_types HO183.out BK185.out (by decide)) (fun _ hk => by first | exact hk.2 | grind) (.int .i64 t180)) (fun _ hk => by first | exact hk.2 | grind) (.slice Ao19 t181.length co19)) (fun _ hk => by first | exact trivial | grind)⟩
   replace BK177 := fc2_ hW_ BK177 NB177_185
   replace BK178 := fc2_ hW_ BK178 NB178_185
   replace BK185 : Aside0 (w20.heap[gb185]? = some (.cells #[.int .i64 t180, .slice Ao19 t181.length co19] 27 (0, 0))) := pc2_ hW_ BK185
   replace HB : Aside0 (Below w.heap.size w w20) := ⟨by cases hW_; exact bf_ HB⟩
   clear hW_; replace HO183 := Aside0.mk (Kd.R_drew HO183.out); replace BK177 := Aside0.mk (blk_drew BK177.out); replace BK178 := Aside0.mk (blk_drew BK178.out); replace BK185 := Aside0.mk (blk_drew BK185.out); replace HB := Aside0.mk (below_drew1 HB.out)
   refine start_ (n := 7) (S := fun w' => cw_ w' gb185 0 (.int .i64 t180) ∧ cw_ w' gb185 1 (.slice Ao19 t181.length co19) ∧ cw_ w' gb177 0 (.int .i64 a0_0) ∧ cw_ w' gb177 1 (.slice A0_1 l0_1.length c0_1) ∧ cw_ w' gb177 2 (.slice A0_2 l0_2.length c0_2)) (ds := []) (bs 7 0) (by kernel_rfl) rfl rfl ⟨bt_ BK185 0, bt_ BK185 1, bt_ BK177 0, bt_ BK177 1, bt_ BK177 2⟩ (fun hHeld => ?_)
   generalize w20.drew = w21 at HO183 BK177 BK178 BK185 HB hHeld ⊢
   refine ps0_ 1 24 #[oF,oT,oF,oF,oF,oF,oF] ?_
   refine tk0_ 0 23 (bs 7 2) hHeld ?_
   refine tk0_ 2 25 (bs 7 3) hHeld ?_
   refine on0_ 3 (some 26) (bs 7 4) (fun K hK => ?_)
   refine gs_ Try.func49 #[.slice A0_2 l0_2.length c0_2] ?_
   with_reducible refine (slices_Clone_byte_byte.calls _ _ l0_2 t186 _ ?side1 ?side2 A7.out).mono ?_
   (case side1 => repeat (first | exact (Kd.C_below HR0_2.out HB.out) | (with_reducible refine Kd.C_alloc ?_ _) | (with_reducible refine Kd.C_drewN ?_ _) | (with_reducible refine Kd.C_drew ?_)))
   (case side2 => exact HC0_2.out)
   rintro e w22 ⟨v187, rfl, ho0, hb⟩
   refine ⟨_, rfl, ?_⟩
   replace HO183 := Aside0.mk (Kd.R_below (kr_ HO183) hb); have HO188 := Aside0.mk (Kd.R_lower ho0 (below_size (bf_ HB))); replace BK177 := bb_ BK177 hb; replace BK178 := bb_ BK178 hb; replace BK185 := bb_ BK185 hb; replace HB := Aside0.mk (below_step (bf_ HB) hb); (try clear hb); (try clear hb2); (try clear hk); (try clear hi); (try clear ho0)
   obtain ⟨Ao23, co23, eo23⟩ := Kd.R_slice HO188.out
   (first | subst eo23 | (injection eo23 with f1_ f2_ f3_; have f4_ := f1_.symm; have f5_ := f3_.symm; clear f1_ f2_ f3_; subst f4_; subst f5_))
   refine hK.out _ _ ⟨bt_ BK185 0, bt_ BK185 1, bt_ BK177 0, bt_ BK177 1, bt_ BK177 2⟩ (fun hHeld => ?_)
   clear hK K
   refine norm_ (a' := ?_) ?_ ?_
   rotate_left
   ·show Act.put _ (some 26) _ = _
    simp only [Act.put, ls0_, ls1_, ls2_, i64_w, i32_w]
    rfl
   refine ps0_ 4 27 (bs 7 5) ?_
   refine on0_ 5 none (bs 7 6) (fun K hK => ?_)
   have hs24 := bc_ BK178 0 (.int .i64 0) rfl; have hfs24 := blk_frozen BK178.out 0; have hns24_0 := NB177_178.out; have hns24_2 := NB185_178.out; have hms24_0 := NB178_177.out; have hms24_2 := NB178_185.out; have hs25 := bc_ BK178 1 (.slice none 0 0) rfl; have hfs25 := blk_frozen BK178.out 1; have hns25_0 := NB177_178.out; have hns25_2 := NB185_178.out; have hms25_0 := NB178_177.out; have hms25_2 := NB178_185.out; have hs26 := bc_ BK178 2 (.slice none 0 0) rfl; have hfs26 := blk_frozen BK178.out 2; have hns26_0 := NB177_178.out; have hns26_2 := NB185_178.out; have hms26_0 := NB178_177.out; have hms26_2 := NB178_185.out
   refine skip_ (w1 := ?_) (by rfl) rfl ?_ ?_
   rotate_left
   ·go_simp
    rfl
   refine hK.out _ _ ⟨(cf3_ NB185_178.out hHeld.1), (cf3_ NB185_178.out hHeld.2.1), (cf3_ NB177_178.out hHeld.2.2.1), (cf3_ NB177_178.out hHeld.2.2.2.1), (cf3_ NB177_178.out hHeld.2.2.2.2)⟩ (fun hHeld => ?_)
   clear hK K
   refine ps0_ 6 5 (bs 7 7) ?_
   refine done_ (by kernel_rfl) ?_
   try go_wp2
   refine bodyPost_ret (results_ct rfl _ _ gb178 29 #[.int .i64 t180, .slice Ao19 t181.length co19, .slice Ao23 t186.length co23] (0, 0) _ rfl (by (with_reducible repeat (first | refine blk_drewN ?_ _ | refine blk_drew ?_ | refine blk_alloc ?_ _)); refine blk_put (cs := #[.int .i64 t180, .slice Ao19 t181.length co19, .slice none 0 0]) ?_ 2 _ rfl; (with_reducible repeat (first | refine blk_drewN ?_ _ | refine blk_drew ?_ | refine blk_alloc ?_ _)); refine blk_put (cs := #[.int .i64 t180, .slice none 0 0, .slice none 0 0]) ?_ 1 _ rfl; (with_reducible repeat (first | refine blk_drewN ?_ _ | refine blk_drew ?_ | refine blk_alloc ?_ _)); refine blk_put (cs := #[.int .i64 0, .slice none 0 0, .slice none 0 0]) ?_ 0 _ rfl; exact bk_ BK178) Try.underlying29 rfl (by kernel_rfl)) rfl ?_
   exact ⟨_, _, by first | rfl | (simp [errW_none, errW_some] <;> rfl) | (simp [*, errW_none, errW_some] <;> rfl), by (with_reducible repeat (first | apply Kd.R_alloc | apply Kd.R_drewN | apply Kd.R_drew)); exact Kd.R_mono (Kd.R_far (p := ⟨gb178, 2, none⟩) (Kd.R_far (p := ⟨gb178, 1, none⟩) (Kd.R_far (p := ⟨gb178, 0, none⟩) (Kd.R_types HO183.out BK178.out (by decide)) (fun _ hk => by first | exact hk.2 | grind) (.int .i64 t180)) (fun _ hk => by first | exact hk.2 | grind) (.slice Ao19 t181.length co19)) (fun _ hk => by first | exact hk.2 | grind) (.slice Ao23 t186.length co23)) (fun _ hk => by first | exact trivial | grind), by (with_reducible repeat (first | apply Kd.R_alloc | apply Kd.R_drewN | apply Kd.R_drew)); exact Kd.R_mono (Kd.R_far (p := ⟨gb178, 2, none⟩) (Kd.R_far (p := ⟨gb178, 1, none⟩) (Kd.R_far (p := ⟨gb178, 0, none⟩) (Kd.R_types HO188.out BK178.out (by decide)) (fun _ hk => by first | exact hk.2 | grind) (.int .i64 t180)) (fun _ hk => by first | exact hk.2 | grind) (.slice Ao19 t181.length co19)) (fun _ hk => by first | exact hk.2 | grind) (.slice Ao23 t186.length co23)) (fun _ hk => by first | exact trivial | grind), bf_ HB⟩
  ·rw [if_neg c6] at H
   have c6b0 : (t184 == 0) = false := beq_eq_false_iff_ne.mpr c6
   have c6b1 : (t184 != 0) = true := bne_iff_ne.mpr c6
   simp only [Option.some.injEq, Prod.mk.injEq] at H
   obtain ⟨rfl, rfl, rfl, rfl⟩ := H
   go_enter Try.func13, Try.ntmps13
   go_wp2_with (first | ((with_reducible refine gd_ 2 rfl ?_); refine bv_ 2 #[.int .i64 a0_0, .slice A0_1 l0_1.length c0_1, .slice A0_2 l0_2.length c0_2] 29 ?_; intro gb177 hg w27 hbox hb; have BK177 := Aside0.mk (hbox); have GW177 := gw_ HB hg; have GE177 := gw_ HB hg; replace HB := Aside0.mk (below_step (be_ HB) hb); clear hb hbox hg) | ((with_reducible refine gd_ 4 rfl ?_); refine bv_ 4 #[.int .i64 0, .slice none 0 0, .slice none 0 0] 29 ?_; intro gb178 hg w28 hbox hb; have BK178 := Aside0.mk (hbox); have GW178 := gw_ HB hg; have GE178 := gw_ HB hg; replace HB := Aside0.mk (below_step (bf_ HB) hb); have NB177_178 := nl_ BK177 hg; have NB178_177 := ng_ BK177 hg; replace BK177 := bb_ BK177 hb; clear hb hbox hg; have hnb29 := NB177_178.out; have hnc29 := NB178_177.out; obtain ⟨hcz30_0, hcz30_1, hcz30_2, hfz30_0, hfz30_1, hfz30_2⟩ := bz3_ BK177) | ((with_reducible refine gc_ 47 rfl ?_); refine gl_ 9 Try.func47 #[.agg #[.int .i64 a0_0, .slice A0_1 l0_1.length c0_1, .slice A0_2 l0_2.length c0_2]] ?_; (with_reducible refine (impl_StoreOk.calls k a0_0 _ _ l0_1 _ _ l0_2 true _ ?side1 ?side2 ?side3 ?side4 A3.out).mono ?_); (case side1 => repeat (first | exact (Kd.C_below HR0_1.out HB.out) | (with_reducible refine Kd.C_alloc ?_ _) | (with_reducible refine Kd.C_drewN ?_ _) | (with_reducible refine Kd.C_drew ?_))); (case side2 => exact HC0_1.out); (case side3 => repeat (first | exact (Kd.C_below HR0_2.out HB.out) | (with_reducible refine Kd.C_alloc ?_ _) | (with_reducible refine Kd.C_drewN ?_ _) | (with_reducible refine Kd.C_drew ?_))); (case side4 => exact HC0_2.out); rintro e w31 ⟨rfl, hb⟩; refine ⟨_, rfl, ?_⟩; replace BK177 := bb_ BK177 hb; replace BK178 := bb_ BK178 hb; replace HB := Aside0.mk (below_step (bf_ HB) hb); (try clear hb); (try clear hb2); (try clear hk); (try clear hi); obtain ⟨hcz32_0, hcz32_1, hcz32_2, hfz32_0, hfz32_1, hfz32_2⟩ := bz3_ BK177) | ((with_reducible refine gc_ 48 rfl ?_); refine gl_ 16 Try.func48 #[.agg #[.int .i64 a0_0, .slice A0_1 l0_1.length c0_1], .int .i64 a1] ?_; (with_reducible refine (impl_SlabGive.calls k a0_0 _ _ l0_1 a1 t180 t181 t184 _ ?side1 ?side2 A5.out).mono ?_); (case side1 => repeat (first | exact (Kd.C_below HR0_1.out HB.out) | (with_reducible refine Kd.C_alloc ?_ _) | (with_reducible refine Kd.C_drewN ?_ _) | (with_reducible refine Kd.C_drew ?_))); (case side2 => exact HC0_1.out); rintro e w33 ⟨v182, rfl, ho0, hb⟩; refine ⟨_, rfl, ?_⟩; have HO183 := Aside0.mk (Kd.R_lower ho0 (below_size (bf_ HB))); replace BK177 := bb_ BK177 hb; replace BK178 := bb_ BK178 hb; replace HB := Aside0.mk (below_step (bf_ HB) hb); (try clear hb); (try clear hb2); (try clear hk); (try clear hi); (try clear ho0)) | ((with_reducible refine gd_ 6 rfl ?_); refine bv_ 6 #[.int .i64 0, .slice none 0 0] 27 ?_; intro gb185 hg w34 hbox hb; replace HO183 := Aside0.mk (Kd.R_below (kr_ HO183) hb); have BK185 := Aside0.mk (hbox); have GW185 := gw_ HB hg; have GE185 := gw_ HB hg; replace HB := Aside0.mk (below_step (bf_ HB) hb); have NB177_185 := nl_ BK177 hg; have NB185_177 := ng_ BK177 hg; replace BK177 := bb_ BK177 hb; have NB178_185 := nl_ BK178 hg; have NB185_178 := ng_ BK178 hg; replace BK178 := bb_ BK178 hb; clear hb hbox hg; have hnb35 := NB185_177.out; have hnc35 := NB177_185.out; have hnb36 := NB185_178.out; have hnc36 := NB178_185.out; obtain ⟨hcz37_0, hcz37_1, hfz37_0, hfz37_1⟩ := bz2_ BK185; obtain ⟨Ao38, co38, eo38⟩ := Kd.R_slice HO183.out; subst eo38; obtain ⟨hcz39_0, hcz39_1, hcz39_2, hfz39_0, hfz39_1, hfz39_2⟩ := bz3_ BK178))
   refine bodyPost_ret (results_ct rfl _ _ gb178 29 #[.int .i64 0, .slice none 0 0, .slice none 0 0] (0, 0) _ rfl (by (with_reducible repeat (first | refine blk_drewN ?_ _ | refine blk_drew ?_ | refine blk_alloc ?_ _)); refine blk_put (cs := #[.int .i64 0, .slice none 0 0, .slice none 0 0]) ?_ 2 _ rfl; (with_reducible repeat (first | refine blk_drewN ?_ _ | refine blk_drew ?_ | refine blk_alloc ?_ _)); refine blk_put (cs := #[.int .i64 0, .slice none 0 0, .slice none 0 0]) ?_ 1 _ rfl; (with_reducible repeat (first | refine blk_drewN ?_ _ | refine blk_drew ?_ | refine blk_alloc ?_ _)); refine blk_put (cs := #[.int .i64 0, .slice none 0 0, .slice none 0 0]) ?_ 0 _ rfl; (with_reducible repeat (first | refine blk_drewN ?_ _ | refine blk_drew ?_ | refine blk_alloc ?_ _)); refine blk_far ?_ NB178_185.out _; (with_reducible repeat (first | refine blk_drewN ?_ _ | refine blk_drew ?_ | refine blk_alloc ?_ _)); refine blk_far ?_ NB178_185.out _; exact bk_ BK178) Try.underlying29 rfl (by kernel_rfl)) rfl ?_
   exact ⟨_, _, by first | rfl | (simp [errW_none, errW_some] <;> rfl) | (simp [*, errW_none, errW_some] <;> rfl), by first | exact Kd.R_nil _ _ _ _ _ | exact Kd.N_nil _ _ _ _ _ | exact Kd.V_nil _ _ _ _ _ | exact Kd.Q_nil _ _ _ _ _ | exact Kd.S_nil _ _ _ _ _, by first | exact Kd.R_nil _ _ _ _ _ | exact Kd.N_nil _ _ _ _ _ | exact Kd.V_nil _ _ _ _ _ | exact Kd.Q_nil _ _ _ _ _ | exact Kd.S_nil _ _ _ _ _, bf_ HB⟩
 ·replace c4 := Bool.eq_false_iff.mpr c4
  subst c4
  have H1 : (some (0, ([] : List Int), ([] : List Int), 1)) = some (r1, r2, r3, r4) := by rw [if_neg (show ¬ (false = true) by decide)] at H; exact H
  clear H
  have H := H1
  clear H1
  simp only [Option.some.injEq, Prod.mk.injEq] at H
  obtain ⟨rfl, rfl, rfl, rfl⟩ := H
  go_enter Try.func13, Try.ntmps13
  go_wp2_with (first | ((with_reducible refine gd_ 2 rfl ?_); refine bv_ 2 #[.int .i64 a0_0, .slice A0_1 l0_1.length c0_1, .slice A0_2 l0_2.length c0_2] 29 ?_; intro gb177 hg w40 hbox hb; have BK177 := Aside0.mk (hbox); have GW177 := gw_ HB hg; have GE177 := gw_ HB hg; replace HB := Aside0.mk (below_step (be_ HB) hb); clear hb hbox hg) | ((with_reducible refine gd_ 4 rfl ?_); refine bv_ 4 #[.int .i64 0, .slice none 0 0, .slice none 0 0] 29 ?_; intro gb178 hg w41 hbox hb; have BK178 := Aside0.mk (hbox); have GW178 := gw_ HB hg; have GE178 := gw_ HB hg; replace HB := Aside0.mk (below_step (bf_ HB) hb); have NB177_178 := nl_ BK177 hg; have NB178_177 := ng_ BK177 hg; replace BK177 := bb_ BK177 hb; clear hb hbox hg; have hnb42 := NB177_178.out; have hnc42 := NB178_177.out; obtain ⟨hcz43_0, hcz43_1, hcz43_2, hfz43_0, hfz43_1, hfz43_2⟩ := bz3_ BK177) | ((with_reducible refine gc_ 47 rfl ?_); refine gl_ 9 Try.func47 #[.agg #[.int .i64 a0_0, .slice A0_1 l0_1.length c0_1, .slice A0_2 l0_2.length c0_2]] ?_; (with_reducible refine (impl_StoreOk.calls k a0_0 _ _ l0_1 _ _ l0_2 false _ ?side1 ?side2 ?side3 ?side4 A3.out).mono ?_); (case side1 => repeat (first | exact (Kd.C_below HR0_1.out HB.out) | (with_reducible refine Kd.C_alloc ?_ _) | (with_reducible refine Kd.C_drewN ?_ _) | (with_reducible refine Kd.C_drew ?_))); (case side2 => exact HC0_1.out); (case side3 => repeat (first | exact (Kd.C_below HR0_2.out HB.out) | (with_reducible refine Kd.C_alloc ?_ _) | (with_reducible refine Kd.C_drewN ?_ _) | (with_reducible refine Kd.C_drew ?_))); (case side4 => exact HC0_2.out); rintro e w44 ⟨rfl, hb⟩; refine ⟨_, rfl, ?_⟩; replace BK177 := bb_ BK177 hb; replace BK178 := bb_ BK178 hb; replace HB := Aside0.mk (below_step (bf_ HB) hb); (try clear hb); (try clear hb2); (try clear hk); (try clear hi); obtain ⟨hcz45_0, hcz45_1, hcz45_2, hfz45_0, hfz45_1, hfz45_2⟩ := bz3_ BK178))
  refine bodyPost_ret (results_ct rfl _ _ gb178 29 #[.int .i64 0, .slice none 0 0, .slice none 0 0] (0, 0) _ rfl (by (with_reducible repeat (first | refine blk_drewN ?_ _ | refine blk_drew ?_ | refine blk_alloc ?_ _)); refine blk_put (cs := #[.int .i64 0, .slice none 0 0, .slice none 0 0]) ?_ 2 _ rfl; (with_reducible repeat (first | refine blk_drewN ?_ _ | refine blk_drew ?_ | refine blk_alloc ?_ _)); refine blk_put (cs := #[.int .i64 0, .slice none 0 0, .slice none 0 0]) ?_ 1 _ rfl; (with_reducible repeat (first | refine blk_drewN ?_ _ | refine blk_drew ?_ | refine blk_alloc ?_ _)); refine blk_put (cs := #[.int .i64 0, .slice none 0 0, .slice none 0 0]) ?_ 0 _ rfl; exact bk_ BK178) Try.underlying29 rfl (by kernel_rfl)) rfl ?_
  exact ⟨_, _, by first | rfl | (simp [errW_none, errW_some] <;> rfl) | (simp [*, errW_none, errW_some] <;> rfl), by first | exact Kd.R_nil _ _ _ _ _ | exact Kd.N_nil _ _ _ _ _ | exact Kd.V_nil _ _ _ _ _ | exact Kd.Q_nil _ _ _ _ _ | exact Kd.S_nil _ _ _ _ _, by first | exact Kd.R_nil _ _ _ _ _ | exact Kd.N_nil _ _ _ _ _ | exact Kd.V_nil _ _ _ _ _ | exact Kd.Q_nil _ _ _ _ _ | exact Kd.S_nil _ _ _ _ _, bf_ HB⟩

end Go.Proofs.Ytlafobfjbkhioaa.PFnStoreBook
