-- printed by a program of this session (wip/printx) out of the translation; Lean checks it
import Derived.Test.YtlafobfjbkhioaaXSq
import Derived.Test.YtlafobfjbkhioaaPFnStoreBookx0
import Derived.Test.YtlafobfjbkhioaaPFnStoreBookx1
import Derived.Test.YtlafobfjbkhioaaPFnStoreBookx2
namespace Go.Proofs.Ytlafobfjbkhioaa.PFnStoreBook
open Go.RowKit Go.Proofs.YtlafobfjbkhioaaW.PrintWords Go.Proofs.YtlafobfjbkhioaaW.PrintLast Go.Proofs.YtlafobfjbkhioaaW.PrintMore
attribute [local go_sem] max2_int min2_int max_two min_two max_three min_three max_four min_four   -- for this text's walks alone
set_option linter.unusedVariables false
set_option linter.unusedSimpArgs false

/-! ### impl_StoreGet: function 16 -/
mutual
def impl_StoreGet.j0 : Nat → Int → Int → Bool → Int → List Int → List Int → Option (List Int × Bool)
  | 0, _, _, _, _, _, _ => none
  | k + 1, x1, x2, x27, x234000, x234001, x234002 => if x27 = true then (some (([] : List Int), false)) else ((impl_Slab_chain.f k x234000 x234001 x1).bind fun t239 => (impl_StoreGet.l0 k x2 (([] : List Int)) t239 (t239.length : Int) 0 x234000 x234001 x234002))
def impl_StoreGet.l0 : Nat → Int → List Int → List Int → Int → Int → Int → List Int → List Int → Option (List Int × Bool)
  | 0, _, _, _, _, _, _, _, _ => none
  | k + 1, x2, x8, x32, x33, x34, x234000, x234001, x234002 => if x34 < x33 then (if 0 ≤ x34 then (if x34 < (x32.length : Int) then (if 0 ≤ (wrap64 (16 * (rd x32 x34))) then (if (wrap64 (16 * (rd x32 x34))) ≤ (wrap64 (16 * (wrap64 ((rd x32 x34) + 1)))) then (if (wrap64 (16 * (wrap64 ((rd x32 x34) + 1)))) ≤ (x234002.length : Int) then (if x8.length + ((x234002.take ((wrap64 (16 * (wrap64 ((rd x32 x34) + 1)))) : Int).toNat).drop ((wrap64 (16 * (rd x32 x34))) : Int).toNat).length < 140737488355328 then (impl_StoreGet.l0 k x2 (x8 ++ ((x234002.take ((wrap64 (16 * (wrap64 ((rd x32 x34) + 1)))) : Int).toNat).drop ((wrap64 (16 * (rd x32 x34))) : Int).toNat)) x32 x33 (wrap64 (x34 + 1)) x234000 x234001 x234002) else (none)) else (none)) else (none)) else (none)) else (none)) else (none)) else ((impl_within.f x2 0 (x8.length : Int)).bind fun t247 => (if t247 = true then (if 0 ≤ x2 then (if x2 ≤ (x8.length : Int) then (some ((x8.take (x2 : Int).toNat), true)) else (none)) else (none)) else (some (([] : List Int), false))))
end
def impl_StoreGet.f (k : Nat) (a0_0 : Int) (l0_1 : List Int) (l0_2 : List Int) (a1 : Int) (a2 : Int) : Option (List Int × Bool) := (impl_StoreOk.f k a0_0 l0_1 l0_2).bind fun t234 => (if t234 = true then ((impl_Slab_isHead.f k a0_0 l0_1 a1).bind fun t235 => (if t235 = true then (impl_StoreGet.j0 k a1 a2 (a1 == a0_0) a0_0 l0_1 l0_2) else (impl_StoreGet.j0 k a1 a2 true a0_0 l0_1 l0_2))) else (impl_StoreGet.j0 k a1 a2 true a0_0 l0_1 l0_2))
theorem impl_StoreGet.mono_l : ∀ k, (∀ y0 y1 y2 y3 y4 y5, LeO (impl_StoreGet.j0 k y0 y1 y2 y3 y4 y5) (impl_StoreGet.j0 (k + 1) y0 y1 y2 y3 y4 y5)) ∧ (∀ y0 y1 y2 y3 y4 y5 y6 y7, LeO (impl_StoreGet.l0 k y0 y1 y2 y3 y4 y5 y6 y7) (impl_StoreGet.l0 (k + 1) y0 y1 y2 y3 y4 y5 y6 y7))
 | 0 => ⟨fun _ _ _ _ _ _ r h => by simp [impl_StoreGet.j0] at h, fun _ _ _ _ _ _ _ _ r h => by simp [impl_StoreGet.l0] at h⟩
 | k + 1 => by
  obtain ⟨ih0, ih1⟩ := impl_StoreGet.mono_l k
  refine ⟨?_, ?_⟩
  ·intro y0 y1 y2 y3 y4 y5
   unfold impl_StoreGet.j0
   repeat' first
   | (with_reducible exact ih0 _ _ _ _ _ _)
   | (with_reducible exact ih1 _ _ _ _ _ _ _ _)
   | (with_reducible exact impl_Slab_chain.mono _ _ _ _)
   | (with_reducible exact impl_Slab_isHead.mono _ _ _ _)
   | (with_reducible exact impl_StoreOk.mono _ _ _ _)
   | (with_reducible exact LeO.refl _)
   | (with_reducible exact LeO.none _)
   | (with_reducible refine LeO.ite ?_ ?_)
   | (with_reducible refine LeO.bind ?_ (fun _ => ?_))
   | exact ih0 _ _ _ _ _ _
   | exact ih1 _ _ _ _ _ _ _ _
   | exact impl_Slab_chain.mono _ _ _ _
   | exact impl_Slab_isHead.mono _ _ _ _
   | exact impl_StoreOk.mono _ _ _ _
   | exact LeO.none _
   | refine LeO.ite ?_ ?_
   | refine LeO.bind ?_ (fun _ => ?_)
  ·intro y0 y1 y2 y3 y4 y5 y6 y7
   unfold impl_StoreGet.l0
   repeat' first
   | (with_reducible exact ih0 _ _ _ _ _ _)
   | (with_reducible exact ih1 _ _ _ _ _ _ _ _)
   | (with_reducible exact impl_Slab_chain.mono _ _ _ _)
   | (with_reducible exact impl_Slab_isHead.mono _ _ _ _)
   | (with_reducible exact impl_StoreOk.mono _ _ _ _)
   | (with_reducible exact LeO.refl _)
   | (with_reducible exact LeO.none _)
   | (with_reducible refine LeO.ite ?_ ?_)
   | (with_reducible refine LeO.bind ?_ (fun _ => ?_))
   | exact ih0 _ _ _ _ _ _
   | exact ih1 _ _ _ _ _ _ _ _
   | exact impl_Slab_chain.mono _ _ _ _
   | exact impl_Slab_isHead.mono _ _ _ _
   | exact impl_StoreOk.mono _ _ _ _
   | exact LeO.none _
   | refine LeO.ite ?_ ?_
   | refine LeO.bind ?_ (fun _ => ?_)
theorem impl_StoreGet.mono : ∀ a0 a1 a2 a3 a4 k, LeO (impl_StoreGet.f k a0 a1 a2 a3 a4) (impl_StoreGet.f (k + 1) a0 a1 a2 a3 a4) := by
 intro a0 a1 a2 a3 a4 k
 obtain ⟨ih0, ih1⟩ := impl_StoreGet.mono_l k
 unfold impl_StoreGet.f
 repeat' first
   | (with_reducible exact ih0 _ _ _ _ _ _)
   | (with_reducible exact ih1 _ _ _ _ _ _ _ _)
   | (with_reducible exact impl_Slab_chain.mono _ _ _ _)
   | (with_reducible exact impl_Slab_isHead.mono _ _ _ _)
   | (with_reducible exact impl_StoreOk.mono _ _ _ _)
   | (with_reducible exact LeO.refl _)
   | (with_reducible exact LeO.none _)
   | (with_reducible refine LeO.ite ?_ ?_)
   | (with_reducible refine LeO.bind ?_ (fun _ => ?_))
   | exact ih0 _ _ _ _ _ _
   | exact ih1 _ _ _ _ _ _ _ _
   | exact impl_Slab_chain.mono _ _ _ _
   | exact impl_Slab_isHead.mono _ _ _ _
   | exact impl_StoreOk.mono _ _ _ _
   | exact LeO.none _
   | refine LeO.ite ?_ ?_
   | refine LeO.bind ?_ (fun _ => ?_)
set_option maxHeartbeats 8000000 in
set_option maxRecDepth 100000 in
theorem impl_StoreGet.calls (k : Nat) (a0_0 : Int) (A0_1 : Option Addr) (c0_1 : Nat) (l0_1 : List Int) (A0_2 : Option Addr) (c0_2 : Nat) (l0_2 : List Int) (a1 : Int) (a2 : Int) (r1 : List Int) (r2 : Bool) (w : World) (hr0_1 : Kd.C (Kd.int .i64) w A0_1 l0_1.length l0_1) (hc0_1 : l0_1.length ≤ c0_1) (hr0_2 : Kd.C (Kd.int .u8) w A0_2 l0_2.length l0_2) (hc0_2 : l0_2.length ≤ c0_2) (h : impl_StoreGet.f k a0_0 l0_1 l0_2 a1 a2 = some (r1, r2)) :
  Calls Try.prog 16 #[.agg #[.int .i64 a0_0, .slice A0_1 l0_1.length c0_1, .slice A0_2 l0_2.length c0_2], .int .i64 a1, .int .i64 a2] w fun e w' => ∃ v0_ : Value, e = .returned (.tuple #[v0_, .bool r2]) ∧ Kd.R (Kd.int .u8) 5 w' w.heap.size (fun _ => True) v0_ r1 ∧ Below w.heap.size w w' := by
 have hu29 := Try.underlying29; have hu27 := Try.underlying27
 have HR0_1 := Aside0.mk hr0_1
 have HC0_1 := Aside0.mk hc0_1
 clear hr0_1 hc0_1
 have HR0_2 := Aside0.mk hr0_2
 have HC0_2 := Aside0.mk hc0_2
 clear hr0_2 hc0_2; have HB := Aside0.mk (Below.refl w.heap.size w)
 have H : ((impl_StoreOk.f k a0_0 l0_1 l0_2).bind fun t234 => (if t234 = true then ((impl_Slab_isHead.f k a0_0 l0_1 a1).bind fun t235 => (if t235 = true then (impl_StoreGet.j0 k a1 a2 (a1 == a0_0) a0_0 l0_1 l0_2) else (impl_StoreGet.j0 k a1 a2 true a0_0 l0_1 l0_2))) else (impl_StoreGet.j0 k a1 a2 true a0_0 l0_1 l0_2))) = some (r1, r2) := h
 clear h
 have HC4 := Aside0.mk H
 clear H
 go_enter Try.func16, Try.ntmps16
 go_upto_region 1 with (first | ((with_reducible refine gd_ 3 rfl ?_); refine bv_ 3 #[.int .i64 a0_0, .slice A0_1 l0_1.length c0_1, .slice A0_2 l0_2.length c0_2] 29 ?_; intro gb233 hg w5 hbox hb; have BK233 := Aside0.mk (hbox); have GW233 := gw_ HB hg; have GE233 := gw_ HB hg; replace HB := Aside0.mk (below_step (be_ HB) hb); clear hb hbox hg))
 (try simp only [Act.put, ls0_, ls1_, ls2_])
 go_cut [27] (fun v27 wc => ∃ (kq : Nat) (x27_3 : Bool), v27 = .bool x27_3 ∧ Aside0 (impl_StoreGet.j0 kq a1 a2 x27_3 a0_0 l0_1 l0_2 = some (r1, r2)) ∧ Aside0 (kq ≤ k) ∧ Aside0 (wc.heap[gb233]? = some (.cells #[.int .i64 a0_0, (.slice A0_1 l0_1.length c0_1), (.slice A0_2 l0_2.length c0_2)] 29 (0, 0))) ∧ Aside0 (Below w.heap.size w wc))
 case first =>
  have H := HC4.out
  clear HC4
  replace H := Option.bind_eq_some_iff.mp H
  obtain ⟨t234, A60, H⟩ := H
  replace H : (if t234 = true then ((impl_Slab_isHead.f k a0_0 l0_1 a1).bind fun t235 => (if t235 = true then (impl_StoreGet.j0 k a1 a2 (a1 == a0_0) a0_0 l0_1 l0_2) else (impl_StoreGet.j0 k a1 a2 true a0_0 l0_1 l0_2))) else (impl_StoreGet.j0 k a1 a2 true a0_0 l0_1 l0_2)) = some (r1, r2) := H
  have A6 := Aside0.mk A60
  clear A60
  by_cases c7 : t234 = true
  ·subst c7
   have H1 : ((impl_Slab_isHead.f k a0_0 l0_1 a1).bind fun t235 => (if t235 = true then (impl_StoreGet.j0 k a1 a2 (a1 == a0_0) a0_0 l0_1 l0_2) else (impl_StoreGet.j0 k a1 a2 true a0_0 l0_1 l0_2))) = some (r1, r2) := by rw [if_pos rfl] at H; exact H
   clear H
   have H := H1
   clear H1
   replace H := Option.bind_eq_some_iff.mp H
   obtain ⟨t235, A80, H⟩ := H
   replace H : (if t235 = true then (impl_StoreGet.j0 k a1 a2 (a1 == a0_0) a0_0 l0_1 l0_2) else (impl_StoreGet.j0 k a1 a2 true a0_0 l0_1 l0_2)) = some (r1, r2) := H
   have A8 := Aside0.mk A80
   clear A80
   by_cases c9 : t235 = true
   ·subst c9
    have H1 : (impl_StoreGet.j0 k a1 a2 (a1 == a0_0) a0_0 l0_1 l0_2) = some (r1, r2) := by rw [if_pos rfl] at H; exact H
    clear H
    have H := H1
    clear H1
    have H' := Aside0.mk H
    clear H; obtain ⟨hcz10_0, hcz10_1, hcz10_2, hfz10_0, hfz10_1, hfz10_2⟩ := bz3_ BK233
    go_wp2_with (first | ((with_reducible refine gc_ 47 rfl ?_); refine gl_ 12 Try.func47 #[.agg #[.int .i64 a0_0, .slice A0_1 l0_1.length c0_1, .slice A0_2 l0_2.length c0_2]] ?_; (with_reducible refine (impl_StoreOk.calls k a0_0 _ _ l0_1 _ _ l0_2 true _ ?side1 ?side2 ?side3 ?side4 A6.out).mono ?_); (case side1 => repeat (first | exact (Kd.C_below HR0_1.out HB.out) | (with_reducible refine Kd.C_alloc ?_ _) | (with_reducible refine Kd.C_drewN ?_ _) | (with_reducible refine Kd.C_drew ?_))); (case side2 => exact HC0_1.out); (case side3 => repeat (first | exact (Kd.C_below HR0_2.out HB.out) | (with_reducible refine Kd.C_alloc ?_ _) | (with_reducible refine Kd.C_drewN ?_ _) | (with_reducible refine Kd.C_drew ?_))); (case side4 => exact HC0_2.out); rintro e w11 ⟨rfl, hb⟩; refine ⟨_, rfl, ?_⟩; replace BK233 := bb_ BK233 hb; replace HB := Aside0.mk (below_step (bf_ HB) hb); (try clear hb); (try clear hb2); (try clear hk); (try clear hi); obtain ⟨hcz12_0, hcz12_1, hcz12_2, hfz12_0, hfz12_1, hfz12_2⟩ := bz3_ BK233) | (go_at_call 52; (with_reducible refine (impl_Slab_isHead.calls k a0_0 _ _ l0_1 a1 true _ ?side1 ?side2 A8.out).mono ?_); (case side1 => repeat (first | exact (Kd.C_below HR0_1.out HB.out) | (with_reducible refine Kd.C_alloc ?_ _) | (with_reducible refine Kd.C_drewN ?_ _) | (with_reducible refine Kd.C_drew ?_))); (case side2 => exact HC0_1.out); rintro e w13 ⟨rfl, hb⟩; replace BK233 := bb_ BK233 hb; replace HB := Aside0.mk (below_step (bf_ HB) hb); (try clear hb); (try clear hb2); (try clear hk); (try clear hi); obtain ⟨hcz14_0, hcz14_1, hcz14_2, hfz14_0, hfz14_1, hfz14_2⟩ := bz3_ BK233))
    go_meet
    case rel => exact ⟨_, ((a1 == a0_0)), (by first | rfl | (simp; done) | (simp [*]; done)), H', ⟨by first | omega | exact Nat.le_refl _⟩, ⟨bk_ BK233⟩, ⟨bf_ HB⟩⟩
   ·replace c9 := Bool.eq_false_iff.mpr c9
    subst c9
    have H1 : (impl_StoreGet.j0 k a1 a2 true a0_0 l0_1 l0_2) = some (r1, r2) := by rw [if_neg (show ¬ (false = true) by decide)] at H; exact H
    clear H
    have H := H1
    clear H1
    have H' := Aside0.mk H
    clear H; obtain ⟨hcz15_0, hcz15_1, hcz15_2, hfz15_0, hfz15_1, hfz15_2⟩ := bz3_ BK233
    go_wp2_with (first | ((with_reducible refine gc_ 47 rfl ?_); refine gl_ 12 Try.func47 #[.agg #[.int .i64 a0_0, .slice A0_1 l0_1.length c0_1, .slice A0_2 l0_2.length c0_2]] ?_; (with_reducible refine (impl_StoreOk.calls k a0_0 _ _ l0_1 _ _ l0_2 true _ ?side1 ?side2 ?side3 ?side4 A6.out).mono ?_); (case side1 => repeat (first | exact (Kd.C_below HR0_1.out HB.out) | (with_reducible refine Kd.C_alloc ?_ _) | (with_reducible refine Kd.C_drewN ?_ _) | (with_reducible refine Kd.C_drew ?_))); (case side2 => exact HC0_1.out); (case side3 => repeat (first | exact (Kd.C_below HR0_2.out HB.out) | (with_reducible refine Kd.C_alloc ?_ _) | (with_reducible refine Kd.C_drewN ?_ _) | (with_reducible refine Kd.C_drew ?_))); (case side4 => exact HC0_2.out); rintro e w16 ⟨rfl, hb⟩; refine ⟨_, rfl, ?_⟩; replace BK233 := bb_ BK233 hb; replace HB := Aside0.mk (below_step (bf_ HB) hb); (try clear hb); (try clear hb2); (try clear hk); (try clear hi); obtain ⟨hcz17_0, hcz17_1, hcz17_2, hfz17_0, hfz17_1, hfz17_2⟩ := bz3_ BK233) | (go_at_call 52; (with_reducible refine (impl_Slab_isHead.calls k a0_0 _ _ l0_1 a1 false _ ?side1 ?side2 A8.out).mono ?_); (case side1 => repeat (first | exact (Kd.C_below HR0_1.out HB.out) | (with_reducible refine Kd.C_alloc ?_ _) | (with_reducible refine Kd.C_drewN ?_ _) | (with_reducible refine Kd.C_drew ?_))); (case side2 => exact HC0_1.out); rintro e w18 ⟨rfl, hb⟩; replace BK233 := bb_ BK233 hb; replace HB := Aside0.mk (below_step (bf_ HB) hb); (try clear hb); (try clear hb2); (try clear hk); (try clear hi)))
    go_meet
    case rel => exact ⟨_, (true), (by first | rfl | (simp; done) | (simp [*]; done)), H', ⟨by first | omega | exact Nat.le_refl _⟩, ⟨bk_ BK233⟩, ⟨bf_ HB⟩⟩
  ·replace c7 := Bool.eq_false_iff.mpr c7
   subst c7
   have H1 : (impl_StoreGet.j0 k a1 a2 true a0_0 l0_1 l0_2) = some (r1, r2) := by rw [if_neg (show ¬ (false = true) by decide)] at H; exact H
   clear H
   have H := H1
   clear H1
   have H' := Aside0.mk H
   clear H; obtain ⟨hcz19_0, hcz19_1, hcz19_2, hfz19_0, hfz19_1, hfz19_2⟩ := bz3_ BK233
   go_wp2_with (first | ((with_reducible refine gc_ 47 rfl ?_); refine gl_ 12 Try.func47 #[.agg #[.int .i64 a0_0, .slice A0_1 l0_1.length c0_1, .slice A0_2 l0_2.length c0_2]] ?_; (with_reducible refine (impl_StoreOk.calls k a0_0 _ _ l0_1 _ _ l0_2 false _ ?side1 ?side2 ?side3 ?side4 A6.out).mono ?_); (case side1 => repeat (first | exact (Kd.C_below HR0_1.out HB.out) | (with_reducible refine Kd.C_alloc ?_ _) | (with_reducible refine Kd.C_drewN ?_ _) | (with_reducible refine Kd.C_drew ?_))); (case side2 => exact HC0_1.out); (case side3 => repeat (first | exact (Kd.C_below HR0_2.out HB.out) | (with_reducible refine Kd.C_alloc ?_ _) | (with_reducible refine Kd.C_drewN ?_ _) | (with_reducible refine Kd.C_drew ?_))); (case side4 => exact HC0_2.out); rintro e w20 ⟨rfl, hb⟩; refine ⟨_, rfl, ?_⟩; replace BK233 := bb_ BK233 hb; replace HB := Aside0.mk (below_step (bf_ HB) hb); (try clear hb); (try clear hb2); (try clear hk); (try clear hi)))
   go_meet
   case rel => exact ⟨_, (true), (by first | rfl | (simp; done) | (simp [*]; done)), H', ⟨by first | omega | exact Nat.le_refl _⟩, ⟨bk_ BK233⟩, ⟨bf_ HB⟩⟩
 case rest =>
  clear HC4; (try clear c1); (try clear p2); (try clear c4); (try clear c7); (try clear c9); (try clear c16); (try clear hcz10_0 hcz10_1 hcz10_2 hfz10_0 hfz10_1 hfz10_2); (try clear hcz12_0 hcz12_1 hcz12_2 hfz12_0 hfz12_1 hfz12_2); (try clear hcz14_0 hcz14_1 hcz14_2 hfz14_0 hfz14_1 hfz14_2); (try clear hcz15_0 hcz15_1 hcz15_2 hfz15_0 hfz15_1 hfz15_2); (try clear hcz17_0 hcz17_1 hcz17_2 hfz17_0 hfz17_1 hfz17_2); (try clear hcz19_0 hcz19_1 hcz19_2 hfz19_0 hfz19_1 hfz19_2)
  obtain ⟨kq, x27_3, rfl, HA, HJ3, BK233, HB⟩ := hcut
  cases kq with
  | zero => exact absurd HA.out (by simp [impl_StoreGet.j0])
  | succ kj3 =>
   have H := HA.out
   clear HA
   simp only [impl_StoreGet.j0] at H
   by_cases c21 : x27_3 = true
   ·subst c21
    have H1 : (some (([] : List Int), false)) = some (r1, r2) := by rw [if_pos rfl] at H; exact H
    clear H
    have H := H1
    clear H1
    simp only [Option.some.injEq, Prod.mk.injEq] at H
    obtain ⟨rfl, rfl⟩ := H
    go_wp2
    go_ret2
    exact ⟨_, by first | rfl | (simp [errW_none, errW_some] <;> rfl) | (simp [*, errW_none, errW_some] <;> rfl), by first | exact Kd.R_nil _ _ _ _ _ | exact Kd.N_nil _ _ _ _ _ | exact Kd.V_nil _ _ _ _ _ | exact Kd.Q_nil _ _ _ _ _ | exact Kd.S_nil _ _ _ _ _, bf_ HB⟩
   ·replace c21 := Bool.eq_false_iff.mpr c21
    subst c21
    have H1 : ((impl_Slab_chain.f kj3 a0_0 l0_1 a1).bind fun t239 => (impl_StoreGet.l0 kj3 a2 (([] : List Int)) t239 (t239.length : Int) 0 a0_0 l0_1 l0_2)) = some (r1, r2) := by rw [if_neg (show ¬ (false = true) by decide)] at H; exact H
    clear H
    have H := H1
    clear H1
    obtain ⟨y236, hy236⟩ : ∃ y_ : List Int, y_ = (([] : List Int)) := ⟨_, rfl⟩
    replace H : ((impl_Slab_chain.f kj3 a0_0 l0_1 a1).bind fun t239 => (impl_StoreGet.l0 kj3 a2 y236 t239 (t239.length : Int) 0 a0_0 l0_1 l0_2)) = some (r1, r2) := by first | (rw [hy236]; with_reducible exact H) | (have H2_ := (Option.bind_some _ _).symm.trans H; rw [hy236]; with_reducible exact H2_) | (have H2_ := (Option.bind_some _ _).symm.trans H; with_reducible exact H2_) | with_reducible exact H | (rw [hy236]; exact H) | exact H
    have Ny236 := Aside0.mk hy236
    clear hy236
    replace H := Option.bind_eq_some_iff.mp H
    obtain ⟨t239, A220, H⟩ := H
    replace H : (impl_StoreGet.l0 kj3 a2 y236 t239 (t239.length : Int) 0 a0_0 l0_1 l0_2) = some (r1, r2) := H
    have A22 := Aside0.mk A220
    clear A220
    have H' := Aside0.mk H
    clear H
    go_wp2_with (first | ((with_reducible refine gd_ 28 rfl ?_); refine Kd.R_lit (Kd.int .u8) _ 5 ?hg (N := 28) ?hd (xs := ([] : List Int)) (inner := []) (ok := fun _ => True) (okp := fun _ => True) ?hr ?hp (fun _ hk => by first | exact hk | grind) trivial (Below.refl _ _) (Nat.le_refl _) (by simp) ?_; (case hd => rfl); (case hg => rfl); (case hr => first | (go_simp; done) | (go_simp; rfl)); (case hp => exact (Reps.none _ _)); intro v237 w23 ho24 hb hg_ hnew_; clear hg_ hnew_; (first | rw [← Ny236.out] at ho24 | (simp only [Int.reduceToNat] at ho24; rw [← Ny236.out] at ho24)); have HO238 := Aside0.mk (Kd.R_lower ho24 (below_size (bf_ HB))); replace BK233 := bb_ BK233 hb; replace HB := Aside0.mk (below_step (bf_ HB) hb); clear hb ho24; obtain ⟨hcz25_0, hcz25_1, hcz25_2, hfz25_0, hfz25_1, hfz25_2⟩ := bz3_ BK233) | ((with_reducible refine gc_ 51 rfl ?_); refine gl_ 32 Try.func51 #[.agg #[.int .i64 a0_0, .slice A0_1 l0_1.length c0_1], .int .i64 a1] ?_; (with_reducible refine (impl_Slab_chain.calls kj3 a0_0 _ _ l0_1 a1 t239 _ ?side1 ?side2 A22.out).mono ?_); (case side1 => repeat (first | exact (Kd.C_below HR0_1.out HB.out) | (with_reducible refine Kd.C_alloc ?_ _) | (with_reducible refine Kd.C_drewN ?_ _) | (with_reducible refine Kd.C_drew ?_))); (case side2 => exact HC0_1.out); rintro e w26 ⟨v240, rfl, ho0, hb⟩; refine ⟨_, rfl, ?_⟩; replace HO238 := Aside0.mk (Kd.R_below (kr_ HO238) hb); have HO241 := Aside0.mk (Kd.R_lower ho0 (below_size (bf_ HB))); replace BK233 := bb_ BK233 hb; replace HB := Aside0.mk (below_step (bf_ HB) hb); (try clear hb); (try clear hb2); (try clear hk); (try clear hi); (try clear ho0); obtain ⟨Ao27, co27, eo27⟩ := Kd.R_slice HO241.out; subst eo27))
    go_loopg [8, 34] kj3 (fun kq v8 v34 w' => ∃ (x8_2 : List Int) (x34_2 : Int), v34 = .int .i64 x34_2 ∧ Aside0 (impl_StoreGet.l0 kq a2 x8_2 t239 (t239.length : Int) x34_2 a0_0 l0_1 l0_2 = some (r1, r2)) ∧ Aside0 (kq ≤ kj3) ∧ Aside0 (Kd.R (Kd.int .u8) 5 w' w.heap.size (fun _ => True) v8 x8_2) ∧ Aside0 (Kd.R (Kd.int .i64) 3 w' w.heap.size (fun _ => True) (.slice Ao27 t239.length co27) t239) ∧ Aside0 (w'.heap[gb233]? = some (.cells #[.int .i64 a0_0, (.slice A0_1 l0_1.length c0_1), (.slice A0_2 l0_2.length c0_2)] 29 (0, 0))) ∧ Aside0 (Below w.heap.size w w'))
    case atStart => exact ⟨(y236), (0), (by first | rfl | (simp; done) | (simp [*]; done)), H', ⟨Nat.le_refl _⟩, ⟨kr_ HO238⟩, ⟨kr_ HO241⟩, ⟨bk_ BK233⟩, ⟨bf_ HB⟩⟩
    case round =>
     clear H'
     (try clear c1); (try clear c2); (try clear p2 p2); (try clear c4); (try clear c5); (try clear c7); (try clear c9); (try clear c16); (try clear c21); (try clear hcz10_0 hcz10_1 hcz10_2 hfz10_0 hfz10_1 hfz10_2); (try clear hcz12_0 hcz12_1 hcz12_2 hfz12_0 hfz12_1 hfz12_2); (try clear hcz14_0 hcz14_1 hcz14_2 hfz14_0 hfz14_1 hfz14_2); (try clear hcz15_0 hcz15_1 hcz15_2 hfz15_0 hfz15_1 hfz15_2); (try clear hcz17_0 hcz17_1 hcz17_2 hfz17_0 hfz17_1 hfz17_2); (try clear hcz19_0 hcz19_1 hcz19_2 hfz19_0 hfz19_1 hfz19_2); (try clear hcz25_0 hcz25_1 hcz25_2 hfz25_0 hfz25_1 hfz25_2)
     obtain ⟨x8_2, x34_2, rfl, HA, HK2, HO_8, HO_32, BK233, HB⟩ := hrel
     cases gk with
     | zero => exact absurd HA.out (by simp [impl_StoreGet.l0])
     | succ k2 =>
      have H := HA.out
      clear HA
      simp only [impl_StoreGet.l0] at H
      by_cases c28 : x34_2 < (t239.length : Int)
      ·rw [if_pos c28] at H
       have c28b0 : decide (x34_2 < (t239.length : Int)) = true := decide_eq_true c28
       clear c28
       by_cases c29 : 0 ≤ x34_2
       ·rw [if_pos c29] at H
        have c29b0 : decide (0 ≤ x34_2) = true := decide_eq_true c29
        clear c29
        by_cases c30 : x34_2 < (t239.length : Int)
        ·rw [if_pos c30] at H
         have c30b0 : decide (x34_2 < (t239.length : Int)) = true := decide_eq_true c30
         clear c30
         obtain ⟨ji31, hji31⟩ : ∃ j_ : Int, (wrap64 (16 * (rd t239 x34_2))) = j_ := ⟨_, rfl⟩
         replace H : (if 0 ≤ (ji31) then (if (ji31) ≤ (wrap64 (16 * (wrap64 ((rd t239 x34_2) + 1)))) then (if (wrap64 (16 * (wrap64 ((rd t239 x34_2) + 1)))) ≤ (l0_2.length : Int) then (if x8_2.length + ((l0_2.take ((wrap64 (16 * (wrap64 ((rd t239 x34_2) + 1)))) : Int).toNat).drop ((ji31) : Int).toNat).length < 140737488355328 then (impl_StoreGet.l0 k2 a2 (x8_2 ++ ((l0_2.take ((wrap64 (16 * (wrap64 ((rd t239 x34_2) + 1)))) : Int).toNat).drop ((ji31) : Int).toNat)) t239 (t239.length : Int) (wrap64 (x34_2 + 1)) a0_0 l0_1 l0_2) else (none)) else (none)) else (none)) else (none)) = some (r1, r2) := by first | (rw [hji31] at H; exact H) | (simp only [hji31] at H ⊢; exact H)
         have hji31w : (IntKind.i64.wrap (16 * (rd t239 x34_2))) = ji31 := (i64_w _).trans hji31
         by_cases c32 : 0 ≤ (ji31)
         ·rw [if_pos c32] at H
          have c32b0 := eq_true c32
          have c32b1 : decide (0 ≤ (ji31)) = true := decide_eq_true c32
          clear c32
          by_cases c33 : (ji31) ≤ (wrap64 (16 * (wrap64 ((rd t239 x34_2) + 1))))
          ·rw [if_pos c33] at H
           have c33b0 := eq_true c33
           have c33b1 : decide ((ji31) ≤ (wrap64 (16 * (wrap64 ((rd t239 x34_2) + 1))))) = true := decide_eq_true c33
           by_cases c34 : (wrap64 (16 * (wrap64 ((rd t239 x34_2) + 1)))) ≤ (l0_2.length : Int)
           ·rw [if_pos c34] at H
            have c34b0 := eq_true c34
            have c34b1 : decide ((wrap64 (16 * (wrap64 ((rd t239 x34_2) + 1)))) ≤ (l0_2.length : Int)) = true := decide_eq_true c34
            by_cases c35 : x8_2.length + ((l0_2.take ((wrap64 (16 * (wrap64 ((rd t239 x34_2) + 1)))) : Int).toNat).drop ((ji31) : Int).toNat).length < 140737488355328
            ·rw [if_pos c35] at H
             have LMc35 := Aside0.mk c35
             clear c35
             obtain ⟨y244, hy244⟩ : ∃ y_ : List Int, y_ = (x8_2 ++ ((l0_2.take ((wrap64 (16 * (wrap64 ((rd t239 x34_2) + 1)))) : Int).toNat).drop ((ji31) : Int).toNat)) := ⟨_, rfl⟩
             replace H : (impl_StoreGet.l0 k2 a2 y244 t239 (t239.length : Int) (wrap64 (x34_2 + 1)) a0_0 l0_1 l0_2) = some (r1, r2) := by first | (rw [hy244]; with_reducible exact H) | (have H2_ := (Option.bind_some _ _).symm.trans H; rw [hy244]; with_reducible exact H2_) | (have H2_ := (Option.bind_some _ _).symm.trans H; with_reducible exact H2_) | with_reducible exact H | (rw [hy244]; exact H) | exact H
             have Ny244 := Aside0.mk hy244
             clear hy244
             have H' := Aside0.mk H
             clear H
             have p242 : 0 ≤ (x34_2 : Int) := od_
             have q242 : x34_2 < (t239.length : Int) := od_
             obtain ⟨ad242, e242, hx242_0⟩ := Kd.at_int (Kd.R_reads' HO_32.out).2.2 x34_2 p242 q242
             cases e242
             replace p242 := eq_true p242
             replace q242 := eq_true q242
             obtain ⟨hcz36_0, hcz36_1, hcz36_2, hfz36_0, hfz36_1, hfz36_2⟩ := bz3_ BK233
             obtain ⟨i037, hi037, _, hsz37, _⟩ := info_parts info5
             obtain ⟨A37, hcut37, hA37, hC37⟩ := print_mid_of (P := Try.prog) (Value.int .u8) 0 22 5 .i64 .i64 Try.underlying22 hi037 hsz37 A0_2 c0_2 l0_2 (ji31) (wrap64 (16 * (wrap64 ((rd t239 x34_2) + 1)))) (od_) (by first | omega | exact od_) (od_) HC0_2.out
             have HR243 := Aside0.mk (Kd.C_of_reads (h1 := fun _ => rfl) (hA37 _ (Kd.reads_of_C HR0_2.out)))
             have HC243 := Aside0.mk hC37
             clear hA37 hC37 hi037 hsz37
             go_wp2_with (first | ((with_reducible refine gate_builtin (b := .append) (xs := #[.tmp 38, .tmp 46]) rfl ?_); at_builtin; refine Kd.R_append_rows (Kd.int .u8) (w0 := w) w.heap.size rfl (.tmp 38) (.tmp 46) 22 5 (.int .u8 0) 1 rfl Try.underlying22 info5 rfl (by decide) (by omega) u8 x8_2 ((l0_2.take ((wrap64 (16 * (wrap64 ((rd t239 x34_2) + 1)))) : Int).toNat).drop ((ji31) : Int).toNat) _ _ _ (fun _ => True) (fun _ => False) rfl rfl ?aO ?aR (fun _ _ h => h) (fun _ h => h.elim) ?aF ?aB ?aS ?aL ?_; (case aR => first | (rw [← show ((l0_2.take ((wrap64 (16 * (wrap64 ((rd t239 x34_2) + 1)))) : Int).toNat).drop ((ji31) : Int).toNat).length = ((wrap64 (16 * (wrap64 ((rd t239 x34_2) + 1)))).toNat - (ji31).toNat) from (by rw [List.length_drop, List.length_take]; have h_ : ((wrap64 (16 * (wrap64 ((rd t239 x34_2) + 1)))) : Int) ≤ (l0_2.length : Int) := od_; omega)]; repeat (first | exact (Kd.C_below HR243.out HB.out) | (with_reducible refine Kd.C_alloc ?_ _) | (with_reducible refine Kd.C_drewN ?_ _) | (with_reducible refine Kd.C_drew ?_))) | (repeat (first | exact (Kd.C_below HR243.out HB.out) | (with_reducible refine Kd.C_alloc ?_ _) | (with_reducible refine Kd.C_drewN ?_ _) | (with_reducible refine Kd.C_drew ?_)))); (case aB => exact (bf_ HB)); (case aF => exact (fun _ _ => trivial)); (case aO => exact (kr_ HO_8)); (case aS => exact (below_size (bf_ HB))); (case aL => have := LMc35.out; have hlx_ := (show ((l0_2.take ((wrap64 (16 * (wrap64 ((rd t239 x34_2) + 1)))) : Int).toNat).drop ((ji31) : Int).toNat).length = ((wrap64 (16 * (wrap64 ((rd t239 x34_2) + 1)))).toNat - (ji31).toNat) from (by rw [List.length_drop, List.length_take]; have h_ : ((wrap64 (16 * (wrap64 ((rd t239 x34_2) + 1)))) : Int) ≤ (l0_2.length : Int) := od_; omega)); omega); intro v245 w38 ho hb hg hat; rw [← Ny244.out] at ho; replace HO_32 := Aside0.mk (Kd.R_over' (kr_ HO_32) (Kd.R_typed (kr_ HO_8)) (by decide) hg); replace BK233 := Aside0.mk (blk_grown (g := gb233) (o := .cells #[.int .i64 a0_0, .slice A0_1 l0_1.length c0_1, .slice A0_2 l0_2.length c0_2] 29 (0, 0)) (bk_ BK233) hg (Kd.R_ne HO_8.out BK233.out (by decide))); replace HB := Aside0.mk (hb); have HO246 := Aside0.mk (ho); clear HO_8 ho hb hg hat))
             go_roundg k2
             case measure => have := HJ3.out; have := HK2.out; omega
             case rel => exact ⟨(y244), (wrap64 (x34_2 + 1)), (by first | rfl | (simp; done) | (simp [*]; done)), H', ⟨by have := HJ3.out; have := HK2.out; omega⟩, ⟨kr_ HO246⟩, ⟨kr_ HO_32⟩, ⟨bk_ BK233⟩, ⟨bf_ HB⟩⟩
            ·rw [if_neg c35] at H
             exact absurd H (by simp)
           ·rw [if_neg c34] at H
            exact absurd H (by simp)
          ·rw [if_neg c33] at H
           exact absurd H (by simp)
         ·rw [if_neg c32] at H
          exact absurd H (by simp)
        ·rw [if_neg c30] at H
         exact absurd H (by simp)
       ·rw [if_neg c29] at H
        exact absurd H (by simp)
      ·rw [if_neg c28] at H
       have c28b0 : decide (x34_2 < (t239.length : Int)) = false := decide_eq_false c28
       clear c28
       replace H := Option.bind_eq_some_iff.mp H
       obtain ⟨t247, A390, H⟩ := H
       replace H : (if t247 = true then (if 0 ≤ a2 then (if a2 ≤ (x8_2.length : Int) then (some ((x8_2.take (a2 : Int).toNat), true)) else (none)) else (none)) else (some (([] : List Int), false))) = some (r1, r2) := H
       have A39 := Aside0.mk A390
       clear A390
       by_cases c40 : t247 = true
       ·subst c40
        have H1 : (if 0 ≤ a2 then (if a2 ≤ (x8_2.length : Int) then (some ((x8_2.take (a2 : Int).toNat), true)) else (none)) else (none)) = some (r1, r2) := by rw [if_pos rfl] at H; exact H
        clear H
        have H := H1
        clear H1
        by_cases c41 : 0 ≤ a2
        ·rw [if_pos c41] at H
         have c41b0 := eq_true c41
         have c41b1 : decide (0 ≤ a2) = true := decide_eq_true c41
         clear c41
         by_cases c42 : a2 ≤ (x8_2.length : Int)
         ·rw [if_pos c42] at H
          have c42b0 := eq_true c42
          have c42b1 : decide (a2 ≤ (x8_2.length : Int)) = true := decide_eq_true c42
          clear c42
          obtain ⟨y248, hy248⟩ : ∃ y_ : List Int, y_ = (x8_2.take (a2 : Int).toNat) := ⟨_, rfl⟩
          replace H : (some (y248, true)) = some (r1, r2) := by first | (rw [hy248]; with_reducible exact H) | (have H2_ := (Option.bind_some _ _).symm.trans H; rw [hy248]; with_reducible exact H2_) | (have H2_ := (Option.bind_some _ _).symm.trans H; with_reducible exact H2_) | with_reducible exact H | (rw [hy248]; exact H) | exact H
          have Ny248 := Aside0.mk hy248
          clear hy248
          simp only [Option.some.injEq, Prod.mk.injEq] at H
          obtain ⟨rfl, rfl⟩ := H
          obtain ⟨Ao43, co43, eo43⟩ := Kd.R_slice HO_8.out
          subst eo43
          go_wp2_with (first | ((with_reducible refine gc_ 45 rfl ?_); refine gl_ 52 Try.func45 #[.int .i64 a2, .int .i64 0, .int .i64 (x8_2.length : Int)] ?_; (with_reducible refine (impl_within.calls a2 0 (x8_2.length : Int) true _ A39.out).mono ?_); rintro e w' ⟨rfl, ⟨nd, rfl⟩⟩; refine ⟨_, rfl, ?_⟩; have q44 : (a2 : Int) ≤ ((x8_2.length : Int) : Int) := od_; obtain ⟨i044, hi044, _, hsz44, _⟩ := info_parts info5; have hcut44 := cut_to (P := Try.prog) 22 5 .i64 Try.underlying22 hi044 Ao43 x8_2.length co43 a2 (od_) q44 (Kd.R_reads' HO_8.out).2.1; have hr44 := Kd.R_take (m := (a2 : Int).toNat) HO_8.out (by omega); have hy44 : y248.length = (a2 : Int).toNat := (by rw [Ny248.out, List.length_take]; omega); rw [← Ny248.out] at hr44; rw [← hy44] at hr44 hcut44; clear hy44 hi044 hsz44 HO_8; have HO250 := Aside0.mk hr44; clear hr44; replace q44 := eq_true q44))
          go_ret2
          exact ⟨_, by first | rfl | (simp [errW_none, errW_some] <;> rfl) | (simp [*, errW_none, errW_some] <;> rfl), by (with_reducible repeat (first | apply Kd.R_alloc | apply Kd.R_drewN | apply Kd.R_drew)); exact HO250.out, bf_ HB⟩
         ·rw [if_neg c42] at H
          exact absurd H (by simp)
        ·rw [if_neg c41] at H
         exact absurd H (by simp)
       ·replace c40 := Bool.eq_false_iff.mpr c40
        subst c40
        have H1 : (some (([] : List Int), false)) = some (r1, r2) := by rw [if_neg (show ¬ (false = true) by decide)] at H; exact H
        clear H
        have H := H1
        clear H1
        simp only [Option.some.injEq, Prod.mk.injEq] at H
        obtain ⟨rfl, rfl⟩ := H
        obtain ⟨Ao45, co45, eo45⟩ := Kd.R_slice HO_8.out
        subst eo45
        go_wp2_with (first | ((with_reducible refine gc_ 45 rfl ?_); refine gl_ 52 Try.func45 #[.int .i64 a2, .int .i64 0, .int .i64 (x8_2.length : Int)] ?_; (with_reducible refine (impl_within.calls a2 0 (x8_2.length : Int) false _ A39.out).mono ?_); rintro e w' ⟨rfl, ⟨nd, rfl⟩⟩; refine ⟨_, rfl, ?_⟩))
        go_ret2
        exact ⟨_, by first | rfl | (simp [errW_none, errW_some] <;> rfl) | (simp [*, errW_none, errW_some] <;> rfl), by first | exact Kd.R_nil _ _ _ _ _ | exact Kd.N_nil _ _ _ _ _ | exact Kd.V_nil _ _ _ _ _ | exact Kd.Q_nil _ _ _ _ _ | exact Kd.S_nil _ _ _ _ _, bf_ HB⟩

/-! ### impl_SlabChain: function 17 -/
def impl_SlabChain.f (k : Nat) (a0_0 : Int) (l0_1 : List Int) (a1 : Int) : Option (List Int) := (impl_SlabOk.f k a0_0 l0_1).bind fun t252 => (if t252 = true then ((impl_Slab_isHead.f k a0_0 l0_1 a1).bind fun t253 => (if t253 = true then ((impl_Slab_chain.f k a0_0 l0_1 a1).bind fun t254 => (some t254)) else (some ([] : List Int)))) else (some ([] : List Int)))
theorem impl_SlabChain.mono : ∀ a0 a1 a2 k, LeO (impl_SlabChain.f k a0 a1 a2) (impl_SlabChain.f (k + 1) a0 a1 a2) := by
 intro a0 a1 a2 k
 unfold impl_SlabChain.f
 repeat' first
   | (with_reducible exact impl_SlabOk.mono _ _ _)
   | (with_reducible exact impl_Slab_chain.mono _ _ _ _)
   | (with_reducible exact impl_Slab_isHead.mono _ _ _ _)
   | (with_reducible exact LeO.refl _)
   | (with_reducible exact LeO.none _)
   | (with_reducible refine LeO.ite ?_ ?_)
   | (with_reducible refine LeO.bind ?_ (fun _ => ?_))
   | exact impl_SlabOk.mono _ _ _
   | exact impl_Slab_chain.mono _ _ _ _
   | exact impl_Slab_isHead.mono _ _ _ _
   | exact LeO.none _
   | refine LeO.ite ?_ ?_
   | refine LeO.bind ?_ (fun _ => ?_)
set_option maxHeartbeats 8000000 in
set_option maxRecDepth 100000 in
theorem impl_SlabChain.calls (k : Nat) (a0_0 : Int) (A0_1 : Option Addr) (c0_1 : Nat) (l0_1 : List Int) (a1 : Int) (r : List Int) (w : World) (hr0_1 : Kd.C (Kd.int .i64) w A0_1 l0_1.length l0_1) (hc0_1 : l0_1.length ≤ c0_1) (h : impl_SlabChain.f k a0_0 l0_1 a1 = some r) :
  Calls Try.prog 17 #[.agg #[.int .i64 a0_0, .slice A0_1 l0_1.length c0_1], .int .i64 a1] w fun e w' => ∃ v0_ : Value, e = .returned (v0_) ∧ Kd.R (Kd.int .i64) 3 w' w.heap.size (fun _ => True) v0_ r ∧ Below w.heap.size w w' := by
 have hu27 := Try.underlying27
 have HR0_1 := Aside0.mk hr0_1
 have HC0_1 := Aside0.mk hc0_1
 clear hr0_1 hc0_1; have HB := Aside0.mk (Below.refl w.heap.size w)
 have H : ((impl_SlabOk.f k a0_0 l0_1).bind fun t252 => (if t252 = true then ((impl_Slab_isHead.f k a0_0 l0_1 a1).bind fun t253 => (if t253 = true then ((impl_Slab_chain.f k a0_0 l0_1 a1).bind fun t254 => (some t254)) else (some ([] : List Int)))) else (some ([] : List Int)))) = some r := h
 clear h
 replace H := Option.bind_eq_some_iff.mp H
 obtain ⟨t252, A30, H⟩ := H
 replace H : (if t252 = true then ((impl_Slab_isHead.f k a0_0 l0_1 a1).bind fun t253 => (if t253 = true then ((impl_Slab_chain.f k a0_0 l0_1 a1).bind fun t254 => (some t254)) else (some ([] : List Int)))) else (some ([] : List Int))) = some r := H
 have A3 := Aside0.mk A30
 clear A30
 by_cases c4 : t252 = true
 ·subst c4
  have H1 : ((impl_Slab_isHead.f k a0_0 l0_1 a1).bind fun t253 => (if t253 = true then ((impl_Slab_chain.f k a0_0 l0_1 a1).bind fun t254 => (some t254)) else (some ([] : List Int)))) = some r := by rw [if_pos rfl] at H; exact H
  clear H
  have H := H1
  clear H1
  replace H := Option.bind_eq_some_iff.mp H
  obtain ⟨t253, A50, H⟩ := H
  replace H : (if t253 = true then ((impl_Slab_chain.f k a0_0 l0_1 a1).bind fun t254 => (some t254)) else (some ([] : List Int))) = some r := H
  have A5 := Aside0.mk A50
  clear A50
  by_cases c6 : t253 = true
  ·subst c6
   have H1 : ((impl_Slab_chain.f k a0_0 l0_1 a1).bind fun t254 => (some t254)) = some r := by rw [if_pos rfl] at H; exact H
   clear H
   have H := H1
   clear H1
   replace H := Option.bind_eq_some_iff.mp H
   obtain ⟨t254, A70, H⟩ := H
   replace H : (some t254) = some r := H
   have A7 := Aside0.mk A70
   clear A70
   obtain rfl := Option.some.inj H
   go_enter Try.func17, Try.ntmps17
   go_wp2_with (first | ((with_reducible refine gd_ 2 rfl ?_); refine bv_ 2 #[.int .i64 a0_0, .slice A0_1 l0_1.length c0_1] 27 ?_; intro gb251 hg w8 hbox hb; have BK251 := Aside0.mk (hbox); have GW251 := gw_ HB hg; have GE251 := gw_ HB hg; replace HB := Aside0.mk (below_step (be_ HB) hb); clear hb hbox hg; obtain ⟨hcz9_0, hcz9_1, hfz9_0, hfz9_1⟩ := bz2_ BK251) | ((with_reducible refine gc_ 53 rfl ?_); refine gl_ 6 Try.func53 #[.agg #[.int .i64 a0_0, .slice A0_1 l0_1.length c0_1]] ?_; (with_reducible refine (impl_SlabOk.calls k a0_0 _ _ l0_1 true _ ?side1 ?side2 A3.out).mono ?_); (case side1 => repeat (first | exact (Kd.C_below HR0_1.out HB.out) | (with_reducible refine Kd.C_alloc ?_ _) | (with_reducible refine Kd.C_drewN ?_ _) | (with_reducible refine Kd.C_drew ?_))); (case side2 => exact HC0_1.out); rintro e w10 ⟨rfl, hb⟩; refine ⟨_, rfl, ?_⟩; replace BK251 := bb_ BK251 hb; replace HB := Aside0.mk (below_step (bf_ HB) hb); (try clear hb); (try clear hb2); (try clear hk); (try clear hi); obtain ⟨hcz11_0, hcz11_1, hfz11_0, hfz11_1⟩ := bz2_ BK251) | (go_at_call 52; (with_reducible refine (impl_Slab_isHead.calls k a0_0 _ _ l0_1 a1 true _ ?side1 ?side2 A5.out).mono ?_); (case side1 => repeat (first | exact (Kd.C_below HR0_1.out HB.out) | (with_reducible refine Kd.C_alloc ?_ _) | (with_reducible refine Kd.C_drewN ?_ _) | (with_reducible refine Kd.C_drew ?_))); (case side2 => exact HC0_1.out); rintro e w12 ⟨rfl, hb⟩; replace BK251 := bb_ BK251 hb; replace HB := Aside0.mk (below_step (bf_ HB) hb); (try clear hb); (try clear hb2); (try clear hk); (try clear hi); obtain ⟨hcz13_0, hcz13_1, hfz13_0, hfz13_1⟩ := bz2_ BK251) | ((with_reducible refine gc_ 51 rfl ?_); refine gl_ 16 Try.func51 #[.agg #[.int .i64 a0_0, .slice A0_1 l0_1.length c0_1], .int .i64 a1] ?_; (with_reducible refine (impl_Slab_chain.calls k a0_0 _ _ l0_1 a1 t254 _ ?side1 ?side2 A7.out).mono ?_); (case side1 => repeat (first | exact (Kd.C_below HR0_1.out HB.out) | (with_reducible refine Kd.C_alloc ?_ _) | (with_reducible refine Kd.C_drewN ?_ _) | (with_reducible refine Kd.C_drew ?_))); (case side2 => exact HC0_1.out); rintro e w14 ⟨v255, rfl, ho0, hb⟩; refine ⟨_, rfl, ?_⟩; have HO256 := Aside0.mk (Kd.R_lower ho0 (below_size (bf_ HB))); replace BK251 := bb_ BK251 hb; replace HB := Aside0.mk (below_step (bf_ HB) hb); (try clear hb); (try clear hb2); (try clear hk); (try clear hi); (try clear ho0)))
   go_ret
   exact ⟨_, by first | rfl | (simp [errW_none, errW_some] <;> rfl) | (simp [*, errW_none, errW_some] <;> rfl), by (with_reducible repeat (first | apply Kd.R_alloc | apply Kd.R_drewN | apply Kd.R_drew)); exact HO256.out, bf_ HB⟩
  ·replace c6 := Bool.eq_false_iff.mpr c6
   subst c6
   have H1 : (some ([] : List Int)) = some r := by rw [if_neg (show ¬ (false = true) by decide)] at H; exact H
   clear H
   have H := H1
   clear H1
   obtain rfl := Option.some.inj H
   go_enter Try.func17, Try.ntmps17
   go_wp2_with (first | ((with_reducible refine gd_ 2 rfl ?_); refine bv_ 2 #[.int .i64 a0_0, .slice A0_1 l0_1.length c0_1] 27 ?_; intro gb251 hg w15 hbox hb; have BK251 := Aside0.mk (hbox); have GW251 := gw_ HB hg; have GE251 := gw_ HB hg; replace HB := Aside0.mk (below_step (be_ HB) hb); clear hb hbox hg; obtain ⟨hcz16_0, hcz16_1, hfz16_0, hfz16_1⟩ := bz2_ BK251) | ((with_reducible refine gc_ 53 rfl ?_); refine gl_ 6 Try.func53 #[.agg #[.int .i64 a0_0, .slice A0_1 l0_1.length c0_1]] ?_; (with_reducible refine (impl_SlabOk.calls k a0_0 _ _ l0_1 true _ ?side1 ?side2 A3.out).mono ?_); (case side1 => repeat (first | exact (Kd.C_below HR0_1.out HB.out) | (with_reducible refine Kd.C_alloc ?_ _) | (with_reducible refine Kd.C_drewN ?_ _) | (with_reducible refine Kd.C_drew ?_))); (case side2 => exact HC0_1.out); rintro e w17 ⟨rfl, hb⟩; refine ⟨_, rfl, ?_⟩; replace BK251 := bb_ BK251 hb; replace HB := Aside0.mk (below_step (bf_ HB) hb); (try clear hb); (try clear hb2); (try clear hk); (try clear hi); obtain ⟨hcz18_0, hcz18_1, hfz18_0, hfz18_1⟩ := bz2_ BK251) | (go_at_call 52; (with_reducible refine (impl_Slab_isHead.calls k a0_0 _ _ l0_1 a1 false _ ?side1 ?side2 A5.out).mono ?_); (case side1 => repeat (first | exact (Kd.C_below HR0_1.out HB.out) | (with_reducible refine Kd.C_alloc ?_ _) | (with_reducible refine Kd.C_drewN ?_ _) | (with_reducible refine Kd.C_drew ?_))); (case side2 => exact HC0_1.out); rintro e w19 ⟨rfl, hb⟩; replace BK251 := bb_ BK251 hb; replace HB := Aside0.mk (below_step (bf_ HB) hb); (try clear hb); (try clear hb2); (try clear hk); (try clear hi)))
   go_ret
   exact ⟨_, by first | rfl | (simp [errW_none, errW_some] <;> rfl) | (simp [*, errW_none, errW_some] <;> rfl), by first | exact Kd.R_nil _ _ _ _ _ | exact Kd.N_nil _ _ _ _ _ | exact Kd.V_nil _ _ _ _ _ | exact Kd.Q_nil _ _ _ _ _ | exact Kd.S_nil _ _ _ _ _, bf_ HB⟩
 ·replace c4 := Bool.eq_false_iff.mpr c4
  subst c4
  have H1 : (some ([] : List Int)) = some r := by rw [if_neg (show ¬ (false = true) by decide)] at H; exact H
  clear H
  have H := H1
  clear H1
  obtain rfl := Option.some.inj H
  go_enter Try.func17, Try.ntmps17
  go_wp2_with (first | ((with_reducible refine gd_ 2 rfl ?_); refine bv_ 2 #[.int .i64 a0_0, .slice A0_1 l0_1.length c0_1] 27 ?_; intro gb251 hg w20 hbox hb; have BK251 := Aside0.mk (hbox); have GW251 := gw_ HB hg; have GE251 := gw_ HB hg; replace HB := Aside0.mk (below_step (be_ HB) hb); clear hb hbox hg; obtain ⟨hcz21_0, hcz21_1, hfz21_0, hfz21_1⟩ := bz2_ BK251) | ((with_reducible refine gc_ 53 rfl ?_); refine gl_ 6 Try.func53 #[.agg #[.int .i64 a0_0, .slice A0_1 l0_1.length c0_1]] ?_; (with_reducible refine (impl_SlabOk.calls k a0_0 _ _ l0_1 false _ ?side1 ?side2 A3.out).mono ?_); (case side1 => repeat (first | exact (Kd.C_below HR0_1.out HB.out) | (with_reducible refine Kd.C_alloc ?_ _) | (with_reducible refine Kd.C_drewN ?_ _) | (with_reducible refine Kd.C_drew ?_))); (case side2 => exact HC0_1.out); rintro e w22 ⟨rfl, hb⟩; refine ⟨_, rfl, ?_⟩; replace BK251 := bb_ BK251 hb; replace HB := Aside0.mk (below_step (bf_ HB) hb); (try clear hb); (try clear hb2); (try clear hk); (try clear hi)))
  go_ret
  exact ⟨_, by first | rfl | (simp [errW_none, errW_some] <;> rfl) | (simp [*, errW_none, errW_some] <;> rfl), by first | exact Kd.R_nil _ _ _ _ _ | exact Kd.N_nil _ _ _ _ _ | exact Kd.V_nil _ _ _ _ _ | exact Kd.Q_nil _ _ _ _ _ | exact Kd.S_nil _ _ _ _ _, bf_ HB⟩

/-! ### spec_l16Ahead: function 120 -/
def spec_l16Ahead.l0 : Nat → Int → Int → Int → List Int → Option (Int)
  | 0, _, _, _, _ => none
  | k + 1, x1, x5, x258000, x258001 => if x5 < (x258001.length : Int) then (if 0 ≤ x5 then (if (rd x258001 x5) = x1 then (some x5) else (spec_l16Ahead.l0 k x1 (wrap64 (x5 + 1)) x258000 x258001)) else (none)) else (some (-1))
def spec_l16Ahead.f (k : Nat) (a0_0 : Int) (l0_1 : List Int) (a1 : Int) : Option (Int) := spec_l16Ahead.l0 k a1 0 a0_0 l0_1
theorem spec_l16Ahead.mono_l : ∀ k, (∀ y0 y1 y2 y3, LeO (spec_l16Ahead.l0 k y0 y1 y2 y3) (spec_l16Ahead.l0 (k + 1) y0 y1 y2 y3))
 | 0 => fun _ _ _ _ r h => by simp [spec_l16Ahead.l0] at h
 | k + 1 => by
  have ih0 := spec_l16Ahead.mono_l k
  ·intro y0 y1 y2 y3
   unfold spec_l16Ahead.l0
   repeat' first
   | (with_reducible exact ih0 _ _ _ _)
   | (with_reducible exact LeO.refl _)
   | (with_reducible exact LeO.none _)
   | (with_reducible refine LeO.ite ?_ ?_)
   | (with_reducible refine LeO.bind ?_ (fun _ => ?_))
   | exact ih0 _ _ _ _
   | exact LeO.none _
   | refine LeO.ite ?_ ?_
   | refine LeO.bind ?_ (fun _ => ?_)
theorem spec_l16Ahead.mono : ∀ a0 a1 a2 k, LeO (spec_l16Ahead.f k a0 a1 a2) (spec_l16Ahead.f (k + 1) a0 a1 a2) := by
 intro a0 a1 a2 k
 have ih0 := spec_l16Ahead.mono_l k
 unfold spec_l16Ahead.f
 repeat' first
   | (with_reducible exact ih0 _ _ _ _)
   | (with_reducible exact LeO.refl _)
   | (with_reducible exact LeO.none _)
   | (with_reducible refine LeO.ite ?_ ?_)
   | (with_reducible refine LeO.bind ?_ (fun _ => ?_))
   | exact ih0 _ _ _ _
   | exact LeO.none _
   | refine LeO.ite ?_ ?_
   | refine LeO.bind ?_ (fun _ => ?_)
set_option maxHeartbeats 8000000 in
set_option maxRecDepth 100000 in
theorem spec_l16Ahead.calls (k : Nat) (a0_0 : Int) (A0_1 : Option Addr) (c0_1 : Nat) (l0_1 : List Int) (a1 : Int) (r : Int) (w : World) (hr0_1 : Kd.C (Kd.int .i64) w A0_1 l0_1.length l0_1) (hc0_1 : l0_1.length ≤ c0_1) (h : spec_l16Ahead.f k a0_0 l0_1 a1 = some r) :
  Calls Try.prog 120 #[.agg #[.int .i64 a0_0, .slice A0_1 l0_1.length c0_1], .int .i64 a1] w fun e w' => e = .returned (.int .i64 r) ∧ Below w.heap.size w w' := by
 have hu27 := Try.underlying27
 have HR0_1 := Aside0.mk hr0_1
 have HC0_1 := Aside0.mk hc0_1
 clear hr0_1 hc0_1; have HB := Aside0.mk (Below.refl w.heap.size w)
 have H : (spec_l16Ahead.l0 k a1 0 a0_0 l0_1) = some r := h
 clear h
 have H' := Aside0.mk H
 clear H
 go_enter Try.func120, Try.ntmps120
 go_wp2_with (first | ((with_reducible refine gd_ 2 rfl ?_); refine bv_ 2 #[.int .i64 a0_0, .slice A0_1 l0_1.length c0_1] 27 ?_; intro gb257 hg w3 hbox hb; have BK257 := Aside0.mk (hbox); have GW257 := gw_ HB hg; have GE257 := gw_ HB hg; replace HB := Aside0.mk (below_step (be_ HB) hb); clear hb hbox hg))
 go_loopg [5] k (fun kq v5 w' => ∃ (x5_1 : Int), v5 = .int .i64 x5_1 ∧ Aside0 (spec_l16Ahead.l0 kq a1 x5_1 a0_0 l0_1 = some r) ∧ Aside0 (kq ≤ k) ∧ Aside0 (w'.heap[gb257]? = some (.cells #[.int .i64 a0_0, (.slice A0_1 l0_1.length c0_1)] 27 (0, 0))) ∧ Aside0 (Below w.heap.size w w'))
 case atStart => exact ⟨(0), (by first | rfl | (simp; done) | (simp [*]; done)), H', ⟨Nat.le_refl _⟩, ⟨bk_ BK257⟩, ⟨bf_ HB⟩⟩
 case round =>
  clear H'
  (try clear c1); (try clear p2)
  obtain ⟨x5_1, rfl, HA, HK1, BK257, HB⟩ := hrel
  cases gk with
  | zero => exact absurd HA.out (by simp [spec_l16Ahead.l0])
  | succ k1 =>
   have H := HA.out
   clear HA
   simp only [spec_l16Ahead.l0] at H
   by_cases c4 : x5_1 < (l0_1.length : Int)
   ·rw [if_pos c4] at H
    have c4b0 : decide (x5_1 < (l0_1.length : Int)) = true := decide_eq_true c4
    clear c4
    by_cases c5 : 0 ≤ x5_1
    ·rw [if_pos c5] at H
     have c5b0 : decide (0 ≤ x5_1) = true := decide_eq_true c5
     clear c5
     by_cases c6 : (rd l0_1 x5_1) = a1
     ·rw [if_pos c6] at H
      have c6b0 : ((rd l0_1 x5_1) == a1) = true := beq_iff_eq.mpr c6
      have c6b1 : ((rd l0_1 x5_1) != a1) = false := bne_eq_false_iff_eq.mpr c6
      clear c6
      obtain rfl := Option.some.inj H
      obtain ⟨hcz7_0, hcz7_1, hfz7_0, hfz7_1⟩ := bz2_ BK257
      have p258 : 0 ≤ (x5_1 : Int) := od_
      have q258 : x5_1 < (l0_1.length : Int) := od_
      obtain ⟨ad258, e258, hx258_0⟩ := Kd.at_int HR0_1.out x5_1 p258 q258
      cases e258
      replace hx258_0 := hb_ HB hx258_0
      replace p258 := eq_true p258
      replace q258 := eq_true q258
      go_wp2
      go_ret
      exact ⟨by first | rfl | (simp [errW_none, errW_some] <;> rfl) | (simp [*, errW_none, errW_some] <;> rfl), bf_ HB⟩
     ·rw [if_neg c6] at H
      have c6b0 : ((rd l0_1 x5_1) == a1) = false := beq_eq_false_iff_ne.mpr c6
      have c6b1 : ((rd l0_1 x5_1) != a1) = true := bne_iff_ne.mpr c6
      have H' := Aside0.mk H
      clear H; obtain ⟨hcz8_0, hcz8_1, hfz8_0, hfz8_1⟩ := bz2_ BK257
      have p258 : 0 ≤ (x5_1 : Int) := od_
      have q258 : x5_1 < (l0_1.length : Int) := od_
      obtain ⟨ad258, e258, hx258_0⟩ := Kd.at_int HR0_1.out x5_1 p258 q258
      cases e258
      replace hx258_0 := hb_ HB hx258_0
      replace p258 := eq_true p258
      replace q258 := eq_true q258
      go_wp2
      go_roundg k1
      case measure => have := HK1.out; omega
      case rel => exact ⟨(wrap64 (x5_1 + 1)), (by first | rfl | (simp; done) | (simp [*]; done)), H', ⟨by have := HK1.out; omega⟩, ⟨bk_ BK257⟩, ⟨bf_ HB⟩⟩
    ·rw [if_neg c5] at H
     exact absurd H (by simp)
   ·rw [if_neg c4] at H
    have c4b0 : decide (x5_1 < (l0_1.length : Int)) = false := decide_eq_false c4
    clear c4
    obtain rfl := Option.some.inj H
    obtain ⟨hcz9_0, hcz9_1, hfz9_0, hfz9_1⟩ := bz2_ BK257
    go_wp2
    go_ret
    exact ⟨by first | rfl | (simp [errW_none, errW_some] <;> rfl) | (simp [*, errW_none, errW_some] <;> rfl), bf_ HB⟩

/-! ### spec_l16Head: function 119 -/
def spec_l16Head.f (k : Nat) (a0_0 : Int) (l0_1 : List Int) (a1 : Int) : Option (Bool) := if a1 ≥ 0 then (if a1 < (l0_1.length : Int) then ((spec_l16Ahead.f k a0_0 l0_1 a1).bind fun t260 => (some (decide (t260 < 0)))) else (some false)) else (some false)
theorem spec_l16Head.mono : ∀ a0 a1 a2 k, LeO (spec_l16Head.f k a0 a1 a2) (spec_l16Head.f (k + 1) a0 a1 a2) := by
 intro a0 a1 a2 k
 unfold spec_l16Head.f
 repeat' first
   | (with_reducible exact spec_l16Ahead.mono _ _ _ _)
   | (with_reducible exact LeO.refl _)
   | (with_reducible exact LeO.none _)
   | (with_reducible refine LeO.ite ?_ ?_)
   | (with_reducible refine LeO.bind ?_ (fun _ => ?_))
   | exact spec_l16Ahead.mono _ _ _ _
   | exact LeO.none _
   | refine LeO.ite ?_ ?_
   | refine LeO.bind ?_ (fun _ => ?_)
set_option maxHeartbeats 8000000 in
set_option maxRecDepth 100000 in
theorem spec_l16Head.calls (k : Nat) (a0_0 : Int) (A0_1 : Option Addr) (c0_1 : Nat) (l0_1 : List Int) (a1 : Int) (r : Bool) (w : World) (hr0_1 : Kd.C (Kd.int .i64) w A0_1 l0_1.length l0_1) (hc0_1 : l0_1.length ≤ c0_1) (h : spec_l16Head.f k a0_0 l0_1 a1 = some r) :
  Calls Try.prog 119 #[.agg #[.int .i64 a0_0, .slice A0_1 l0_1.length c0_1], .int .i64 a1] w fun e w' => e = .returned (.bool r) ∧ Below w.heap.size w w' := by
 have hu27 := Try.underlying27
 have HR0_1 := Aside0.mk hr0_1
 have HC0_1 := Aside0.mk hc0_1
 clear hr0_1 hc0_1; have HB := Aside0.mk (Below.refl w.heap.size w)
 have H : (if a1 ≥ 0 then (if a1 < (l0_1.length : Int) then ((spec_l16Ahead.f k a0_0 l0_1 a1).bind fun t260 => (some (decide (t260 < 0)))) else (some false)) else (some false)) = some r := h
 clear h
 by_cases c3 : a1 ≥ 0
 ·rw [if_pos c3] at H
  have c3b0 : decide (0 ≤ a1) = true := decide_eq_true c3
  clear c3
  by_cases c4 : a1 < (l0_1.length : Int)
  ·rw [if_pos c4] at H
   have c4b0 : decide (a1 < (l0_1.length : Int)) = true := decide_eq_true c4
   clear c4
   replace H := Option.bind_eq_some_iff.mp H
   obtain ⟨t260, A50, H⟩ := H
   replace H : (some (decide (t260 < 0))) = some r := H
   have A5 := Aside0.mk A50
   clear A50
   obtain rfl := Option.some.inj H
   go_enter Try.func119, Try.ntmps119
   go_wp2_with (first | ((with_reducible refine gd_ 2 rfl ?_); (try (refine gate_guard (by rfl) ?_; dsimp only)); refine bv_ 2 #[.int .i64 a0_0, .slice A0_1 l0_1.length c0_1] 27 ?_; intro gb259 hg w6 hbox hb; have BK259 := Aside0.mk (hbox); have GW259 := gw_ HB hg; have GE259 := gw_ HB hg; replace HB := Aside0.mk (below_step (be_ HB) hb); clear hb hbox hg; obtain ⟨hcz7_0, hcz7_1, hfz7_0, hfz7_1⟩ := bz2_ BK259) | (go_at_call 120; (with_reducible refine (spec_l16Ahead.calls k a0_0 _ _ l0_1 a1 t260 _ ?side1 ?side2 A5.out).mono ?_); (case side1 => repeat (first | exact (Kd.C_below HR0_1.out HB.out) | (with_reducible refine Kd.C_alloc ?_ _) | (with_reducible refine Kd.C_drewN ?_ _) | (with_reducible refine Kd.C_drew ?_))); (case side2 => exact HC0_1.out); rintro e w8 ⟨rfl, hb⟩; replace BK259 := bb_ BK259 hb; replace HB := Aside0.mk (below_step (bf_ HB) hb); (try clear hb); (try clear hb2); (try clear hk); (try clear hi)))
   go_ret
   exact ⟨by first | rfl | (simp [errW_none, errW_some] <;> rfl) | (simp [*, errW_none, errW_some] <;> rfl), bf_ HB⟩
  ·rw [if_neg c4] at H
   have c4b0 : decide (a1 < (l0_1.length : Int)) = false := decide_eq_false c4
   clear c4
   obtain rfl := Option.some.inj H
   go_enter Try.func119, Try.ntmps119
   go_wp2_with (first | ((with_reducible refine gd_ 2 rfl ?_); (try (refine gate_guard (by rfl) ?_; dsimp only)); refine bv_ 2 #[.int .i64 a0_0, .slice A0_1 l0_1.length c0_1] 27 ?_; intro gb259 hg w9 hbox hb; have BK259 := Aside0.mk (hbox); have GW259 := gw_ HB hg; have GE259 := gw_ HB hg; replace HB := Aside0.mk (below_step (be_ HB) hb); clear hb hbox hg; obtain ⟨hcz10_0, hcz10_1, hfz10_0, hfz10_1⟩ := bz2_ BK259))
   go_ret
   exact ⟨by first | rfl | (simp [errW_none, errW_some] <;> rfl) | (simp [*, errW_none, errW_some] <;> rfl), bf_ HB⟩
 ·rw [if_neg c3] at H
  have c3b0 : decide (0 ≤ a1) = false := decide_eq_false c3
  clear c3
  obtain rfl := Option.some.inj H
  go_enter Try.func119, Try.ntmps119
  go_wp2_with (first | ((with_reducible refine gd_ 2 rfl ?_); (try (refine gate_guard (by rfl) ?_; dsimp only)); refine bv_ 2 #[.int .i64 a0_0, .slice A0_1 l0_1.length c0_1] 27 ?_; intro gb259 hg w11 hbox hb; have BK259 := Aside0.mk (hbox); have GW259 := gw_ HB hg; have GE259 := gw_ HB hg; replace HB := Aside0.mk (below_step (be_ HB) hb); clear hb hbox hg))
  go_ret
  exact ⟨by first | rfl | (simp [errW_none, errW_some] <;> rfl) | (simp [*, errW_none, errW_some] <;> rfl), bf_ HB⟩

end Go.Proofs.Ytlafobfjbkhioaa.PFnStoreBook
