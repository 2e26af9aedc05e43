-- printed by a program of this session (wip/printx) out of the translation; Lean checks it
import Derived.Test.YtnklakficjpmoaaVFnHeapBook
import Derived.Test.YtnklakficjpmoaaPFnHeapBookx0
import Derived.Test.YtnklakficjpmoaaPFnHeapBookx2
import Derived.Test.YtnklakficjpmoaaPFnHeapBookx3
import Derived.Test.YtnklakficjpmoaaPFnHeapBookx4
import Derived.Test.YtnklakficjpmoaaPFnHeapBookx5
namespace Go.Proofs.Ytnklakficjpmoaa.PFnHeapBook
open Go.RowKit Go.Proofs.YtnklakficjpmoaaW.PrintWords Go.Proofs.YtnklakficjpmoaaW.PrintLast Go.Proofs.YtnklakficjpmoaaW.PrintMore
attribute [local go_sem] max2_int min2_int max_two min_two max_three min_three max_four min_four   -- for this text's walks alone
set_option linter.unusedVariables false
set_option linter.unusedSimpArgs false

/-! ### laws_pick: function 42 -/
mutual
def laws_pick.j0 : Nat → List Int → Int → Int → Bool → Option (Int)
  | 0, _, _, _, _ => none
  | k + 1, x0, x1, x2, x15 => if x15 = true then (some 0) else (laws_pick.l0 k x0 x1 x2 0 0)
def laws_pick.l0 : Nat → List Int → Int → Int → Int → Int → Option (Int)
  | 0, _, _, _, _, _ => none
  | k + 1, x0, x1, x2, x7, x8 => if x8 < 3 then (if (x0.length : Int) = 0 then (none) else (if 0 ≤ (Int.tmod (wrap64 (x1 + x8)) (x0.length : Int)) then (if (Int.tmod (wrap64 (x1 + x8)) (x0.length : Int)) < (x0.length : Int) then (laws_pick.l0 k x0 x1 x2 (wrap64 ((wrap64 (31 * x7)) + (wrap64 (rd x0 (Int.tmod (wrap64 (x1 + x8)) (x0.length : Int)))))) (wrap64 (x8 + 1))) else (none)) else (none))) else (if x2 = 0 then (none) else (some (Int.tmod (wrap64 (x7 + x1)) x2)))
end
def laws_pick.f (k : Nat) (l0 : List Int) (a1 : Int) (a2 : Int) : Option (Int) := if (l0.length : Int) = 0 then (laws_pick.j0 k l0 a1 a2 true) else (laws_pick.j0 k l0 a1 a2 (decide (a2 < 2)))
theorem laws_pick.mono_l : ∀ k, (∀ y0 y1 y2 y3, LeO (laws_pick.j0 k y0 y1 y2 y3) (laws_pick.j0 (k + 1) y0 y1 y2 y3)) ∧ (∀ y0 y1 y2 y3 y4, LeO (laws_pick.l0 k y0 y1 y2 y3 y4) (laws_pick.l0 (k + 1) y0 y1 y2 y3 y4))
 | 0 => ⟨fun _ _ _ _ r h => by simp [laws_pick.j0] at h, fun _ _ _ _ _ r h => by simp [laws_pick.l0] at h⟩
 | k + 1 => by
  obtain ⟨ih0, ih1⟩ := laws_pick.mono_l k
  refine ⟨?_, ?_⟩ <;> intros <;> (first | unfold laws_pick.j0 | unfold laws_pick.l0) <;> repeat' (first | (with_reducible exact ih0 ..) | (with_reducible exact ih1 ..) | (with_reducible exact LeO.refl _) | (with_reducible exact LeO.none _) | (with_reducible refine LeO.ite ?_ ?_) | (with_reducible refine LeO.bind ?_ (fun _ => ?_)) | exact ih0 .. | exact ih1 .. | exact LeO.none _ | refine LeO.ite ?_ ?_ | refine LeO.bind ?_ (fun _ => ?_))
theorem laws_pick.mono : ∀ a0 a1 a2 k, LeO (laws_pick.f k a0 a1 a2) (laws_pick.f (k + 1) a0 a1 a2) := by
 intro a0 a1 a2 k
 obtain ⟨ih0, ih1⟩ := laws_pick.mono_l k
 unfold laws_pick.f
 repeat' (first | (with_reducible exact ih0 ..) | (with_reducible exact ih1 ..) | (with_reducible exact LeO.refl _) | (with_reducible exact LeO.none _) | (with_reducible refine LeO.ite ?_ ?_) | (with_reducible refine LeO.bind ?_ (fun _ => ?_)) | exact ih0 .. | exact ih1 .. | exact LeO.none _ | refine LeO.ite ?_ ?_ | refine LeO.bind ?_ (fun _ => ?_))
set_option maxHeartbeats 8000000 in
set_option maxRecDepth 100000 in
theorem laws_pick.calls (k : Nat) (A0 : Option Addr) (c0 : Nat) (l0 : List Int) (a1 : Int) (a2 : Int) (r : Int) (w : World) (hr0 : Kd.C (Kd.int .u8) w A0 l0.length l0) (hc0 : l0.length ≤ c0) (h : laws_pick.f k l0 a1 a2 = some r) :
  Calls Try.prog 42 #[.slice A0 l0.length c0, .int .i64 a1, .int .i64 a2] w fun e w' => e = .returned (.int .i64 r) ∧ Drawn0 w w' := by
 have HR0 := Aside0.mk hr0
 have HC0 := Aside0.mk hc0
 clear hr0 hc0
 have H := h
 clear h
 unfold laws_pick.f at H
 have HC4 := Aside0.mk H
 clear H
 go_enter Try.func42, Try.ntmps42
 go_upto_region 1 with (fail)
 go_cut [15] (fun v15 wc => ∃ (kq : Nat) (x15_3 : Bool), v15 = .bool x15_3 ∧ Aside0 (laws_pick.j0 kq l0 a1 a2 x15_3 = some r) ∧ Aside0 (kq ≤ k) ∧ Drawn0 w wc)
 case first =>
  have H := HC4.out
  clear HC4
  by_cases c5 : (l0.length : Int) = 0
  ·rw [if_pos c5] at H
   have c5b0 : ((l0.length : Int) == 0) = true := beq_iff_eq.mpr c5
   have c5b1 : ((l0.length : Int) != 0) = false := bne_eq_false_iff_eq.mpr c5
   clear c5
   (first | rw [c5b0] | (simp only [i64_w, i32_w]; rw [c5b0]) | skip)
   have H' := Aside0.mk H
   clear H
   go_wp2
   go_meet
   case rel => exact ⟨_, (true), (by first | rfl | (simp; done) | (simp [*]; done)), H', ⟨by first | omega | exact Nat.le_refl _⟩, by repeat (first | exact Drawn0.refl _ | apply Drawn0.step)⟩
  ·rw [if_neg c5] at H
   have c5b0 : ((l0.length : Int) == 0) = false := beq_eq_false_iff_ne.mpr c5
   have c5b1 : ((l0.length : Int) != 0) = true := bne_iff_ne.mpr c5
   have c5b2 : ¬ (l0 = []) := fun h_ => c5 (by rw [h_]; rfl)
   (first | rw [c5b0] | (simp only [i64_w, i32_w]; rw [c5b0]) | skip)
   have H' := Aside0.mk H
   clear H
   go_wp2
   go_meet
   case rel => exact ⟨_, (decide (a2 < 2)), (by first | rfl | (simp; done) | (simp [*]; done)), H', ⟨by first | omega | exact Nat.le_refl _⟩, by repeat (first | exact Drawn0.refl _ | apply Drawn0.step)⟩
 case rest =>
  clear HC4; (try clear p2); (try clear c4); (try clear c5); (try clear c5b0); (try clear c5b1); (try clear c5b2)
  obtain ⟨kq, x15_3, rfl, HA, HJ3, ⟨mc3, rfl⟩⟩ := hcut
  cases kq with
  | zero => exact absurd HA.out (by simp [laws_pick.j0])
  | succ kj3 =>
   have H := HA.out
   clear HA
   simp only [laws_pick.j0] at H
   by_cases c6 : x15_3 = true
   ·subst c6
    rw [if_pos rfl] at H
    obtain rfl := Option.some.inj H
    go_wp2
    go_ret
    exact ⟨by first | rfl | (simp; done) | (simp [*]; done), by repeat (first | exact Drawn0.refl _ | apply Drawn0.step)⟩
   ·replace c6 := Bool.eq_false_iff.mpr c6
    subst c6
    rw [if_neg (show ¬ (false = true) by decide)] at H
    have H' := Aside0.mk H
    clear H
    go_wp2
    go_loopg [7, 8] kj3 (fun kq v7 v8 w' => ∃ (x7_2 : Int) (x8_2 : Int), v7 = .int .i64 x7_2 ∧ v8 = .int .i64 x8_2 ∧ Aside0 (laws_pick.l0 kq l0 a1 a2 x7_2 x8_2 = some r) ∧ Aside0 (kq ≤ kj3) ∧ Drawn0 w w')
    case atStart => exact ⟨(0), (0), (by first | rfl | (simp; done) | (simp [*]; done)), (by first | rfl | (simp; done) | (simp [*]; done)), H', ⟨Nat.le_refl _⟩, by repeat (first | exact Drawn0.refl _ | apply Drawn0.step)⟩
    case round =>
     clear H'
     (try clear p2 p2); (try clear c3); (try clear c4); (try clear c5); (try clear c5b0); (try clear c5b1); (try clear c5b2); (try clear c6)
     obtain ⟨x7_2, x8_2, rfl, rfl, HA, HK2, ⟨m2, rfl⟩⟩ := hrel
     cases gk with
     | zero => exact absurd HA.out (by simp [laws_pick.l0])
     | succ k2 =>
      have H := HA.out
      clear HA
      simp only [laws_pick.l0] at H
      by_cases c7 : x8_2 < 3
      ·rw [if_pos c7] at H
       have c7b0 : decide (x8_2 < 3) = true := decide_eq_true c7
       clear c7
       by_cases c8 : (l0.length : Int) = 0
       ·rw [if_pos c8] at H
        exact absurd H (by simp)
       ·rw [if_neg c8] at H
        have c8b0 : ((l0.length : Int) == 0) = false := beq_eq_false_iff_ne.mpr c8
        have c8b1 : ((l0.length : Int) != 0) = true := bne_iff_ne.mpr c8
        have c8b2 : ¬ (l0 = []) := fun h_ => c8 (by rw [h_]; rfl)
        obtain ⟨ji9, hji9⟩ : ∃ j_ : Int, (Int.tmod (wrap64 (a1 + x8_2)) (l0.length : Int)) = j_ := ⟨_, rfl⟩
        replace H : (if 0 ≤ (ji9) then (if (ji9) < (l0.length : Int) then (laws_pick.l0 k2 l0 a1 a2 (wrap64 ((wrap64 (31 * x7_2)) + (wrap64 (rd l0 (ji9))))) (wrap64 (x8_2 + 1))) else (none)) else (none)) = some r := by first | (rw [hji9] at H; exact H) | (simp only [hji9] at H ⊢; exact H)
        by_cases c10 : 0 ≤ (ji9)
        ·rw [if_pos c10] at H
         have c10b0 : decide (0 ≤ (ji9)) = true := decide_eq_true c10
         clear c10
         by_cases c11 : (ji9) < (l0.length : Int)
         ·rw [if_pos c11] at H
          have c11b0 : decide ((ji9) < (l0.length : Int)) = true := decide_eq_true c11
          clear c11
          have H' := Aside0.mk H
          clear H
          have p339 : 0 ≤ ((ji9) : Int) := od_
          have q339 : (ji9) < (l0.length : Int) := od_
          obtain ⟨ad339, e339, hx339_0⟩ := Kd.at_int HR0.out (ji9) p339 q339
          cases e339
          replace p339 := eq_true p339
          replace q339 := eq_true q339
          go_wp2
          go_roundg k2
          case measure => have := HJ3.out; have := HK2.out; omega
          case rel => exact ⟨(wrap64 ((wrap64 (31 * x7_2)) + (wrap64 (rd l0 (ji9))))), (wrap64 (x8_2 + 1)), (by first | rfl | (simp; done) | (simp only [← hji9] <;> (first | rfl | simp)) | (simp [*]; done)), (by first | rfl | (simp; done) | (simp [*]; done)), H', ⟨by have := HJ3.out; have := HK2.out; omega⟩, by repeat (first | exact Drawn0.refl _ | apply Drawn0.step)⟩
         ·rw [if_neg c11] at H
          exact absurd H (by simp)
        ·rw [if_neg c10] at H
         exact absurd H (by simp)
      ·rw [if_neg c7] at H
       have c7b0 : decide (x8_2 < 3) = false := decide_eq_false c7
       clear c7
       by_cases c12 : a2 = 0
       ·rw [if_pos c12] at H
        exact absurd H (by simp)
       ·rw [if_neg c12] at H
        have c12b0 : (a2 == 0) = false := beq_eq_false_iff_ne.mpr c12
        have c12b1 : (a2 != 0) = true := bne_iff_ne.mpr c12
        obtain rfl := Option.some.inj H
        go_wp2
        go_ret
        exact ⟨by first | rfl | (simp; done) | (simp [*]; done), by repeat (first | exact Drawn0.refl _ | apply Drawn0.step)⟩

/-! ### impl_HeapPush: function 43 -/
def impl_HeapPush.j0 : Nat → Bool → List (S68) → Int → Int → Option ((List (S68)) × Int)
  | 0, _, _, _, _ => none
  | k + 1, x7, x341000, x342000, x342001 => if x7 = true then (some (([] : List (S68)), 1)) else ((impl_Heap_place.f x341000 x342001).bind fun t345 => (if t345 ≥ 0 then (some (([] : List (S68)), 2)) else (if (x341000.length : Int) = 64 then (some (([] : List (S68)), 3)) else ((impl_copyHeap.f x341000).bind fun t346 => (if t346.length < 8796093022208 then ((impl_Heap_up.f k (t346 ++ [(⟨x342000, x342001⟩ : S68)]) (x341000.length : Int)).bind fun bt353 => (some (bt353.2, 0))) else (none))))))
def impl_HeapPush.f (k : Nat) (l0_0 : List (S68)) (a1_0 : Int) (a1_1 : Int) : Option ((List (S68)) × Int) := (impl_HeapOk.f k l0_0).bind fun t343 => (if t343 = true then ((impl_ItemOk.f a1_0 a1_1).bind fun t344 => (impl_HeapPush.j0 k (!t344) l0_0 a1_0 a1_1)) else (impl_HeapPush.j0 k true l0_0 a1_0 a1_1))
theorem impl_HeapPush.mono_l : ∀ k, (∀ y0 y1 y2 y3, LeO (impl_HeapPush.j0 k y0 y1 y2 y3) (impl_HeapPush.j0 (k + 1) y0 y1 y2 y3))
 | 0 => fun _ _ _ _ r h => by simp [impl_HeapPush.j0] at h
 | k + 1 => by
  have ih0 := impl_HeapPush.mono_l k
  ·intro y0 y1 y2 y3
   unfold impl_HeapPush.j0
   repeat' (first | (with_reducible exact ih0 ..) | (with_reducible exact impl_HeapOk.mono _ _) | (with_reducible exact impl_Heap_up.mono _ _ _) | (with_reducible exact LeO.refl _) | (with_reducible exact LeO.none _) | (with_reducible refine LeO.ite ?_ ?_) | (with_reducible refine LeO.bind ?_ (fun _ => ?_)) | exact ih0 .. | exact impl_HeapOk.mono _ _ | exact impl_Heap_up.mono _ _ _ | exact LeO.none _ | refine LeO.ite ?_ ?_ | refine LeO.bind ?_ (fun _ => ?_))
theorem impl_HeapPush.mono : ∀ a0 a1 a2 k, LeO (impl_HeapPush.f k a0 a1 a2) (impl_HeapPush.f (k + 1) a0 a1 a2) := by
 intro a0 a1 a2 k
 have ih0 := impl_HeapPush.mono_l k
 unfold impl_HeapPush.f
 repeat' (first | (with_reducible exact ih0 ..) | (with_reducible exact impl_HeapOk.mono _ _) | (with_reducible exact impl_Heap_up.mono _ _ _) | (with_reducible exact LeO.refl _) | (with_reducible exact LeO.none _) | (with_reducible refine LeO.ite ?_ ?_) | (with_reducible refine LeO.bind ?_ (fun _ => ?_)) | exact ih0 .. | exact impl_HeapOk.mono _ _ | exact impl_Heap_up.mono _ _ _ | exact LeO.none _ | refine LeO.ite ?_ ?_ | refine LeO.bind ?_ (fun _ => ?_))
set_option maxHeartbeats 8000000 in
set_option maxRecDepth 100000 in
theorem impl_HeapPush.calls (k : Nat) (A0_0 : Option Addr) (c0_0 : Nat) (l0_0 : List (S68)) (a1_0 : Int) (a1_1 : Int) (r1 : List (S68)) (r2 : Int) (w : World) (hr0_0 : Kd.C k68 w A0_0 l0_0.length l0_0) (hc0_0 : l0_0.length ≤ c0_0) (h : impl_HeapPush.f k l0_0 a1_0 a1_1 = some (r1, r2)) :
  Calls Try.prog 43 #[.agg #[.slice A0_0 l0_0.length c0_0], .agg #[.int .i64 a1_0, .int .i64 a1_1]] w fun e w' => ∃ v0_ : Value, e = .returned (.tuple #[.agg #[v0_], .int .i64 r2]) ∧ Kd.R k68 68 w' w.heap.size (fun _ => True) v0_ r1 ∧ Below w.heap.size w w' := by
 have hu29 := Try.underlying29; have hu68 := Try.underlying68
 have HR0_0 := Aside0.mk hr0_0
 have HC0_0 := Aside0.mk hc0_0
 clear hr0_0 hc0_0; have HB := Aside0.mk (Below.refl w.heap.size w)
 have H := h
 clear h
 unfold impl_HeapPush.f at H
 have HC3 := Aside0.mk H
 clear H
 go_enter Try.func43, Try.ntmps43
 go_upto_region 1 with (first | ((with_reducible refine gd_ 2 rfl ?_); refine bv_ 2 #[.slice A0_0 l0_0.length c0_0] 29 ?_; intro gb340 hg w4 hbox hb; have BK340 := Aside0.mk (hbox); have GW340 := gw_ HB hg; have GE340 := gw_ HB hg; replace HB := Aside0.mk (below_step (be_ HB) hb); clear hb hbox hg) | ((with_reducible refine gd_ 3 rfl ?_); refine bv_ 3 #[.int .i64 a1_0, .int .i64 a1_1] 68 ?_; intro gb341 hg w5 hbox hb; have BK341 := Aside0.mk (hbox); have GW341 := gw_ HB hg; have GE341 := gw_ HB hg; replace HB := Aside0.mk (below_step (bf_ HB) hb); have NB340_341 := nl_ BK340 hg; have NB341_340 := ng_ BK340 hg; replace BK340 := bb_ BK340 hb; clear hb hbox hg) | ((with_reducible refine gd_ 4 rfl ?_); refine bv_ 4 #[.slice none 0 0] 29 ?_; intro gb342 hg w6 hbox hb; have BK342 := Aside0.mk (hbox); have GW342 := gw_ HB hg; have GE342 := gw_ HB hg; replace HB := Aside0.mk (below_step (bf_ HB) hb); have NB340_342 := nl_ BK340 hg; have NB342_340 := ng_ BK340 hg; replace BK340 := bb_ BK340 hb; have NB341_342 := nl_ BK341 hg; have NB342_341 := ng_ BK341 hg; replace BK341 := bb_ BK341 hb; clear hb hbox hg))
 (try simp only [Act.put, ls0_, ls1_, ls2_])
 go_cut [7] (fun v7 wc => ∃ (kq : Nat) (x7_2 : Bool), v7 = .bool x7_2 ∧ Aside0 (impl_HeapPush.j0 kq x7_2 l0_0 a1_0 a1_1 = some (r1, r2)) ∧ Aside0 (kq ≤ k) ∧ Aside0 (wc.heap[gb340]? = some (.cells #[(.slice A0_0 l0_0.length c0_0)] 29 (0, 0))) ∧ Aside0 (wc.heap[gb341]? = some (.cells #[.int .i64 a1_0, .int .i64 a1_1] 68 (0, 0))) ∧ Aside0 (wc.heap[gb342]? = some (.cells #[(.slice none 0 0)] 29 (0, 0))) ∧ Aside0 (Below w.heap.size w wc))
 case first =>
  have H := HC3.out
  clear HC3
  replace H := Option.bind_eq_some_iff.mp H
  obtain ⟨t343, A70, H⟩ := H
  have A7 := Aside0.mk A70
  clear A70
  by_cases c8 : t343 = true
  ·subst c8
   rw [if_pos rfl] at H
   replace H := Option.bind_eq_some_iff.mp H
   obtain ⟨t344, A90, H⟩ := H
   have A9 := Aside0.mk A90
   clear A90
   have H' := Aside0.mk H
   clear H; have hnb10 := NB340_341.out; have hnc10 := NB341_340.out; have hnb11 := NB340_342.out; have hnc11 := NB342_340.out; obtain ⟨hcz12_0, hfz12_0⟩ := bz1_ BK340
   go_wp2_with (first | ((with_reducible refine gc_ 41 rfl ?_); refine gl_ 9 Try.func41 #[.agg #[.slice A0_0 l0_0.length c0_0]] ?_; (with_reducible refine (impl_HeapOk.calls k _ _ l0_0 true _ ?side1 ?side2 A7.out).mono ?_); (case side1 => repeat (first | exact (Kd.C_below HR0_0.out HB.out) | (with_reducible refine Kd.C_alloc ?_ _) | (with_reducible refine Kd.C_drewN ?_ _) | (with_reducible refine Kd.C_drew ?_))); (case side2 => exact HC0_0.out); rintro e w13 ⟨rfl, hb⟩; refine ⟨_, rfl, ?_⟩; replace BK340 := bb_ BK340 hb; replace BK341 := bb_ BK341 hb; replace BK342 := bb_ BK342 hb; replace HB := Aside0.mk (below_step (bf_ HB) hb); (try clear hb); (try clear hb2); (try clear hk); (try clear hi); have hnb14 := NB341_342.out; have hnc14 := NB342_341.out; obtain ⟨hcz15_0, hcz15_1, hfz15_0, hfz15_1⟩ := bz2_ BK341) | (go_at_call 101; (with_reducible refine (impl_ItemOk.calls a1_0 a1_1 t344 _ A9.out).mono ?_); rintro e w16 ⟨rfl, hb⟩; replace BK340 := bb_ BK340 hb; replace BK341 := bb_ BK341 hb; replace BK342 := bb_ BK342 hb; replace HB := Aside0.mk (below_step (bf_ HB) hb); (try clear hb); (try clear hb2); (try clear hk); (try clear hi)))
   go_meet
   case rel => exact ⟨_, (!t344), (by first | rfl | (simp; done) | (simp [*]; done)), H', ⟨by first | omega | exact Nat.le_refl _⟩, ⟨bk_ BK340⟩, ⟨bk_ BK341⟩, ⟨bk_ BK342⟩, ⟨bf_ HB⟩⟩
  ·replace c8 := Bool.eq_false_iff.mpr c8
   subst c8
   rw [if_neg (show ¬ (false = true) by decide)] at H
   have H' := Aside0.mk H
   clear H; have hnb17 := NB340_341.out; have hnc17 := NB341_340.out; have hnb18 := NB340_342.out; have hnc18 := NB342_340.out; obtain ⟨hcz19_0, hfz19_0⟩ := bz1_ BK340
   go_wp2_with (first | ((with_reducible refine gc_ 41 rfl ?_); refine gl_ 9 Try.func41 #[.agg #[.slice A0_0 l0_0.length c0_0]] ?_; (with_reducible refine (impl_HeapOk.calls k _ _ l0_0 false _ ?side1 ?side2 A7.out).mono ?_); (case side1 => repeat (first | exact (Kd.C_below HR0_0.out HB.out) | (with_reducible refine Kd.C_alloc ?_ _) | (with_reducible refine Kd.C_drewN ?_ _) | (with_reducible refine Kd.C_drew ?_))); (case side2 => exact HC0_0.out); rintro e w20 ⟨rfl, hb⟩; refine ⟨_, rfl, ?_⟩; replace BK340 := bb_ BK340 hb; replace BK341 := bb_ BK341 hb; replace BK342 := bb_ BK342 hb; replace HB := Aside0.mk (below_step (bf_ HB) hb); (try clear hb); (try clear hb2); (try clear hk); (try clear hi)))
   go_meet
   case rel => exact ⟨_, (true), (by first | rfl | (simp; done) | (simp [*]; done)), H', ⟨by first | omega | exact Nat.le_refl _⟩, ⟨bk_ BK340⟩, ⟨bk_ BK341⟩, ⟨bk_ BK342⟩, ⟨bf_ HB⟩⟩
 case rest =>
  clear HC3; (try clear c1); (try clear p2); (try clear c4); (try clear c8); (try clear c10); (try clear c11); (try clear c14); (try clear c17); (try clear c18); (try clear hcz12_0 hfz12_0); (try clear hcz15_0 hcz15_1 hfz15_0 hfz15_1); (try clear hcz19_0 hfz19_0)
  obtain ⟨kq, x7_2, rfl, HA, HJ2, BK340, BK341, BK342, HB⟩ := hcut
  cases kq with
  | zero => exact absurd HA.out (by simp [impl_HeapPush.j0])
  | succ kj2 =>
   have H := HA.out
   clear HA
   simp only [impl_HeapPush.j0] at H
   by_cases c21 : x7_2 = true
   ·subst c21
    rw [if_pos rfl] at H
    simp only [Option.some.injEq, Prod.mk.injEq] at H
    obtain ⟨rfl, rfl⟩ := H
    have hnb22 := NB342_340.out; have hnc22 := NB340_342.out; have hnb23 := NB342_341.out; have hnc23 := NB341_342.out; obtain ⟨hcz24_0, hfz24_0⟩ := bz1_ BK342
    go_wp2
    refine bodyPost_ret (results_ct rfl _ _ gb342 29 #[.slice none 0 0] (0, 0) _ rfl (by (with_reducible repeat (first | refine blk_drewN ?_ _ | refine blk_drew ?_ | refine blk_alloc ?_ _)); refine blk_put (cs := #[.slice none 0 0]) ?_ 0 _ rfl; exact bk_ BK342) Try.underlying29 rfl (by kernel_rfl)) rfl ?_
    exact ⟨_, by first | rfl | (simp [errW_none, errW_some] <;> rfl) | (simp [*, errW_none, errW_some] <;> rfl), by first | exact Kd.R_nil _ _ _ _ _ | exact Kd.N_nil _ _ _ _ _ | exact Kd.V_nil _ _ _ _ _ | exact Kd.Q_nil _ _ _ _ _ | exact Kd.S_nil _ _ _ _ _, bf_ HB⟩
   ·replace c21 := Bool.eq_false_iff.mpr c21
    subst c21
    rw [if_neg (show ¬ (false = true) by decide)] at H
    replace H := Option.bind_eq_some_iff.mp H
    obtain ⟨t345, A250, H⟩ := H
    have A25 := Aside0.mk A250
    clear A250
    by_cases c26 : t345 ≥ 0
    ·rw [if_pos c26] at H
     have c26b0 : decide (0 ≤ t345) = true := decide_eq_true c26
     clear c26
     simp only [Option.some.injEq, Prod.mk.injEq] at H
     obtain ⟨rfl, rfl⟩ := H
     have hnb27 := NB340_341.out; have hnc27 := NB341_340.out; have hnb28 := NB340_342.out; have hnc28 := NB342_340.out; obtain ⟨hcz29_0, hfz29_0⟩ := bz1_ BK340; have hnb30 := NB341_342.out; have hnc30 := NB342_341.out; obtain ⟨hcz31_0, hcz31_1, hfz31_0, hfz31_1⟩ := bz2_ BK341
     go_wp2_with (first | ((with_reducible refine gc_ 95 rfl ?_); refine gl_ 21 Try.func95 #[.agg #[.slice A0_0 l0_0.length c0_0], .int .i64 a1_1] ?_; (with_reducible refine (impl_Heap_place.calls _ _ l0_0 a1_1 t345 _ ?side1 ?side2 A25.out).mono ?_); (case side1 => repeat (first | exact (Kd.C_below HR0_0.out HB.out) | (with_reducible refine Kd.C_alloc ?_ _) | (with_reducible refine Kd.C_drewN ?_ _) | (with_reducible refine Kd.C_drew ?_))); (case side2 => exact HC0_0.out); rintro e w32 ⟨rfl, hb⟩; refine ⟨_, rfl, ?_⟩; replace BK340 := bb_ BK340 hb; replace BK341 := bb_ BK341 hb; replace BK342 := bb_ BK342 hb; replace HB := Aside0.mk (below_step (bf_ HB) hb); (try clear hb); (try clear hb2); (try clear hk); (try clear hi); obtain ⟨hcz33_0, hfz33_0⟩ := bz1_ BK342))
     refine bodyPost_ret (results_ct rfl _ _ gb342 29 #[.slice none 0 0] (0, 0) _ rfl (by (with_reducible repeat (first | refine blk_drewN ?_ _ | refine blk_drew ?_ | refine blk_alloc ?_ _)); refine blk_put (cs := #[.slice none 0 0]) ?_ 0 _ rfl; exact bk_ BK342) Try.underlying29 rfl (by kernel_rfl)) rfl ?_
     exact ⟨_, by first | rfl | (simp [errW_none, errW_some] <;> rfl) | (simp [*, errW_none, errW_some] <;> rfl), by first | exact Kd.R_nil _ _ _ _ _ | exact Kd.N_nil _ _ _ _ _ | exact Kd.V_nil _ _ _ _ _ | exact Kd.Q_nil _ _ _ _ _ | exact Kd.S_nil _ _ _ _ _, bf_ HB⟩
    ·rw [if_neg c26] at H
     have c26b0 : decide (0 ≤ t345) = false := decide_eq_false c26
     clear c26
     by_cases c34 : (l0_0.length : Int) = 64
     ·rw [if_pos c34] at H
      have c34b0 : ((l0_0.length : Int) == 64) = true := beq_iff_eq.mpr c34
      have c34b1 : ((l0_0.length : Int) != 64) = false := bne_eq_false_iff_eq.mpr c34
      clear c34
      simp only [Option.some.injEq, Prod.mk.injEq] at H
      obtain ⟨rfl, rfl⟩ := H
      have hnb35 := NB340_341.out; have hnc35 := NB341_340.out; have hnb36 := NB340_342.out; have hnc36 := NB342_340.out; obtain ⟨hcz37_0, hfz37_0⟩ := bz1_ BK340; have hnb38 := NB341_342.out; have hnc38 := NB342_341.out; obtain ⟨hcz39_0, hcz39_1, hfz39_0, hfz39_1⟩ := bz2_ BK341
      go_wp2_with (first | ((with_reducible refine gc_ 95 rfl ?_); refine gl_ 21 Try.func95 #[.agg #[.slice A0_0 l0_0.length c0_0], .int .i64 a1_1] ?_; (with_reducible refine (impl_Heap_place.calls _ _ l0_0 a1_1 t345 _ ?side1 ?side2 A25.out).mono ?_); (case side1 => repeat (first | exact (Kd.C_below HR0_0.out HB.out) | (with_reducible refine Kd.C_alloc ?_ _) | (with_reducible refine Kd.C_drewN ?_ _) | (with_reducible refine Kd.C_drew ?_))); (case side2 => exact HC0_0.out); rintro e w40 ⟨rfl, hb⟩; refine ⟨_, rfl, ?_⟩; replace BK340 := bb_ BK340 hb; replace BK341 := bb_ BK341 hb; replace BK342 := bb_ BK342 hb; replace HB := Aside0.mk (below_step (bf_ HB) hb); (try clear hb); (try clear hb2); (try clear hk); (try clear hi); obtain ⟨hcz41_0, hfz41_0⟩ := bz1_ BK340; obtain ⟨hcz42_0, hfz42_0⟩ := bz1_ BK342))
      refine bodyPost_ret (results_ct rfl _ _ gb342 29 #[.slice none 0 0] (0, 0) _ rfl (by (with_reducible repeat (first | refine blk_drewN ?_ _ | refine blk_drew ?_ | refine blk_alloc ?_ _)); refine blk_put (cs := #[.slice none 0 0]) ?_ 0 _ rfl; exact bk_ BK342) Try.underlying29 rfl (by kernel_rfl)) rfl ?_
      exact ⟨_, by first | rfl | (simp [errW_none, errW_some] <;> rfl) | (simp [*, errW_none, errW_some] <;> rfl), by first | exact Kd.R_nil _ _ _ _ _ | exact Kd.N_nil _ _ _ _ _ | exact Kd.V_nil _ _ _ _ _ | exact Kd.Q_nil _ _ _ _ _ | exact Kd.S_nil _ _ _ _ _, bf_ HB⟩
     ·rw [if_neg c34] at H
      have c34b0 : ((l0_0.length : Int) == 64) = false := beq_eq_false_iff_ne.mpr c34
      have c34b1 : ((l0_0.length : Int) != 64) = true := bne_iff_ne.mpr c34
      replace H := Option.bind_eq_some_iff.mp H
      obtain ⟨t346, A430, H⟩ := H
      have A43 := Aside0.mk A430
      clear A430
      by_cases c44 : t346.length < 8796093022208
      ·rw [if_pos c44] at H
       have LMc44 := Aside0.mk c44
       clear c44
       obtain ⟨y350, hy350⟩ : ∃ y_ : List (S68), y_ = (t346 ++ [(⟨a1_0, a1_1⟩ : S68)]) := ⟨_, rfl⟩
       replace H : ((impl_Heap_up.f kj2 y350 (l0_0.length : Int)).bind fun bt353 => (some (bt353.2, 0))) = some (r1, r2) := by first | (rw [hy350]; with_reducible exact H) | (have H2_ := (Option.bind_some _ _).symm.trans H; rw [hy350]; with_reducible exact H2_) | (have H2_ := (Option.bind_some _ _).symm.trans H; with_reducible exact H2_) | with_reducible exact H | (rw [hy350]; exact H) | exact H
       have Ny350 := Aside0.mk hy350
       clear hy350
       replace H := Option.bind_eq_some_iff.mp H
       obtain ⟨⟨t353, t354⟩, A450, H⟩ := H
       have A45 := Aside0.mk A450
       clear A450
       simp only [Option.some.injEq, Prod.mk.injEq] at H
       obtain ⟨rfl, rfl⟩ := H
       have hnb46 := NB340_341.out; have hnc46 := NB341_340.out; have hnb47 := NB340_342.out; have hnc47 := NB342_340.out; obtain ⟨hcz48_0, hfz48_0⟩ := bz1_ BK340; have hnb49 := NB341_342.out; have hnc49 := NB342_341.out; obtain ⟨hcz50_0, hcz50_1, hfz50_0, hfz50_1⟩ := bz2_ BK341
       go_wp2_with (first | ((with_reducible refine gc_ 95 rfl ?_); refine gl_ 21 Try.func95 #[.agg #[.slice A0_0 l0_0.length c0_0], .int .i64 a1_1] ?_; (with_reducible refine (impl_Heap_place.calls _ _ l0_0 a1_1 t345 _ ?side1 ?side2 A25.out).mono ?_); (case side1 => repeat (first | exact (Kd.C_below HR0_0.out HB.out) | (with_reducible refine Kd.C_alloc ?_ _) | (with_reducible refine Kd.C_drewN ?_ _) | (with_reducible refine Kd.C_drew ?_))); (case side2 => exact HC0_0.out); rintro e w51 ⟨rfl, hb⟩; refine ⟨_, rfl, ?_⟩; replace BK340 := bb_ BK340 hb; replace BK341 := bb_ BK341 hb; replace BK342 := bb_ BK342 hb; replace HB := Aside0.mk (below_step (bf_ HB) hb); (try clear hb); (try clear hb2); (try clear hk); (try clear hi); obtain ⟨hcz52_0, hfz52_0⟩ := bz1_ BK340) | ((with_reducible refine gc_ 96 rfl ?_); refine gl_ 31 Try.func96 #[.agg #[.slice A0_0 l0_0.length c0_0]] ?_; (with_reducible refine (impl_copyHeap.calls _ _ l0_0 t346 _ ?side1 ?side2 A43.out).mono ?_); (case side1 => repeat (first | exact (Kd.C_below HR0_0.out HB.out) | (with_reducible refine Kd.C_alloc ?_ _) | (with_reducible refine Kd.C_drewN ?_ _) | (with_reducible refine Kd.C_drew ?_))); (case side2 => exact HC0_0.out); rintro e w53 ⟨v347, rfl, ho0, hb⟩; refine ⟨_, rfl, ?_⟩; have HO348 := Aside0.mk (Kd.R_lower (Kd.R_newB ho0 (g := gb341) (o := .cells #[.int .i64 a1_0, .int .i64 a1_1] 68 (0, 0)) (bk_ BK341)) (below_size (bf_ HB))); replace BK340 := bb_ BK340 hb; replace BK341 := bb_ BK341 hb; replace BK342 := bb_ BK342 hb; replace HB := Aside0.mk (below_step (bf_ HB) hb); (try clear hb); (try clear hb2); (try clear hk); (try clear hi); (try clear ho0)) | ((with_reducible refine gd_ 6 rfl ?_); refine bv_ 6 #[.slice none 0 0] 29 ?_; intro gb349 hg w54 hbox hb; replace HO348 := Aside0.mk (Kd.R_below (kr_ HO348) hb); have BK349 := Aside0.mk (hbox); have GW349 := gw_ HB hg; have GE349 := gw_ HB hg; replace HB := Aside0.mk (below_step (bf_ HB) hb); have NB340_349 := nl_ BK340 hg; have NB349_340 := ng_ BK340 hg; replace BK340 := bb_ BK340 hb; have NB341_349 := nl_ BK341 hg; have NB349_341 := ng_ BK341 hg; replace BK341 := bb_ BK341 hb; have NB342_349 := nl_ BK342 hg; have NB349_342 := ng_ BK342 hg; replace BK342 := bb_ BK342 hb; clear hb hbox hg; obtain ⟨Ao55, co55, eo55⟩ := Kd.R_slice HO348.out; subst eo55; have hnb56 := NB349_340.out; have hnc56 := NB340_349.out; have hnb57 := NB349_341.out; have hnc57 := NB341_349.out; have hnb58 := NB349_342.out; have hnc58 := NB342_349.out; obtain ⟨hcz59_0, hfz59_0⟩ := bz1_ BK349; obtain ⟨hcz60_0, hcz60_1, hfz60_0, hfz60_1⟩ := bz2_ BK341) | ((with_reducible refine gate_builtin (b := .append) (xs := #[.tmp 33, .tmp 35]) rfl ?_); at_builtin; refine Kd.R_append k68 (w0 := w) w.heap.size rfl (.tmp 33) (.tmp 35) 26 68 (.agg #[(.int .i64 0), (.int .i64 0)]) 16 rfl Try.underlying26 info68 rfl (by decide) (by omega) (.slice Ao55 t346.length co55) t346 (⟨a1_0, a1_1⟩ : S68) [.int .i64 a1_0, .int .i64 a1_1] (fun k_ => k_ ≠ gb341) (fun _ => False) rfl (by first | (go_simp; done) | (go_simp; rfl)) ?aP (fun _ hk => by first | exact hk.elim | grind) ?aF ?aO ?aB ?aS ?aL ?_; (case aP => exact k68_mkM _ _ _ (⟨a1_0, a1_1⟩ : S68)); (case aB => exact (bf_ HB)); (case aF => exact (fun k_ hk => by first | exact Kd.freshB (g := gb341) (o := .cells #[.int .i64 a1_0, .int .i64 a1_1] 68 (0, 0)) (bl_ BK341) k_ hk | grind)); (case aO => exact (by (with_reducible repeat (first | apply Kd.R_alloc | apply Kd.R_drewN | apply Kd.R_drew)); exact Kd.R_mono (Kd.R_far (p := ⟨gb349, 0, none⟩) (Kd.R_types HO348.out BK349.out (by decide)) (fun _ hk => by first | exact hk.2 | grind) (.slice Ao55 t346.length co55)) (fun _ hk => by first | exact hk.1.2 | grind))); (case aS => exact (below_size (bf_ HB))); (case aL => have := LMc44.out; omega); intro v351 w61 ho hb hg hat; rw [← Ny350.out] at ho; replace BK340 := Aside0.mk (blk_grown (g := gb340) (o := .cells #[.slice A0_0 l0_0.length c0_0] 29 (0, 0)) (bl_ BK340) hg (Kd.R_ne HO348.out BK340.out (by decide))); replace BK341 := Aside0.mk (blk_grown (g := gb341) (o := .cells #[.int .i64 a1_0, .int .i64 a1_1] 68 (0, 0)) (bl_ BK341) hg (Kd.R_away HO348.out (fun _ hk => by first | exact hk.2 | grind))); replace BK342 := Aside0.mk (blk_grown (g := gb342) (o := .cells #[.slice none 0 0] 29 (0, 0)) (bl_ BK342) hg (Kd.R_ne HO348.out BK342.out (by decide))); replace BK349 := Aside0.mk (blk_grown (g := gb349) (o := .cells #[.slice Ao55 t346.length co55] 29 (0, 0)) (by (with_reducible repeat (first | refine blk_drewN ?_ _ | refine blk_drew ?_ | refine blk_alloc ?_ _)); refine blk_put (cs := #[.slice none 0 0]) ?_ 0 _ rfl; exact bk_ BK349) hg (Kd.R_ne HO348.out BK349.out (by decide))); replace HB := Aside0.mk (hb); have HO352 := Aside0.mk (ho); clear HO348 ho hb hg hat; obtain ⟨Ao62, co62, eo62⟩ := Kd.R_slice HO352.out; subst eo62; obtain ⟨hcz63_0, hfz63_0⟩ := bz1_ BK349) | ((with_reducible refine gate_store (t := 26) (p := 37) rfl ?_); refine store_event (t := 26) (p := 37) (v := ?vo_w64) (w1 := (w61.setCell ⟨gb349, 0, none⟩ (.slice Ao62 y350.length co62))) ?hg ?ho ?hn ?hr ?_; (case ho => rfl); (case hg => rfl); (case hn => rfl); (case hr => first | (go_simp; done) | (go_simp; rfl)); intro w64 hw; have n0_ : Aside0 (Kd.R k68 68 w64 w.heap.size (fun k_ => k_ ≠ gb341) (.slice Ao62 y350.length co62) y350) := ⟨(by rw [hw]; exact (by (with_reducible repeat (first | apply Kd.R_alloc | apply Kd.R_drewN | apply Kd.R_drew)); exact Kd.R_mono (Kd.R_far (p := ⟨gb349, 0, none⟩) (Kd.R_types HO352.out BK349.out (by decide)) (fun _ hk => by first | exact hk.2 | grind) (.slice Ao62 y350.length co62)) (fun _ hk => by first | exact hk.1 | grind)))⟩; have n1_ : Aside0 (w64.heap[gb340]? = some (.cells #[.slice A0_0 l0_0.length c0_0] 29 (0, 0))) := ⟨(by rw [hw]; exact (bl_ BK340))⟩; have n2_ : Aside0 (w64.heap[gb341]? = some (.cells #[.int .i64 a1_0, .int .i64 a1_1] 68 (0, 0))) := ⟨(by rw [hw]; exact (bl_ BK341))⟩; have n3_ : Aside0 (w64.heap[gb342]? = some (.cells #[.slice none 0 0] 29 (0, 0))) := ⟨(by rw [hw]; exact (bl_ BK342))⟩; have n4_ : Aside0 (w64.heap[gb349]? = some (.cells #[.slice Ao62 y350.length co62] 29 (0, 0))) := ⟨(by rw [hw]; exact (by (with_reducible repeat (first | refine blk_drewN ?_ _ | refine blk_drew ?_ | refine blk_alloc ?_ _)); refine blk_put (cs := #[.slice Ao55 t346.length co55]) ?_ 0 _ rfl; exact bk_ BK349))⟩; have n5_ : Aside0 (Below w.heap.size w w64) := ⟨(by rw [hw]; exact (bf_ HB))⟩; clear hw HO352 BK340 BK341 BK342 BK349 HB; have HO352 := n0_; have BK340 := n1_; have BK341 := n2_; have BK342 := n3_; have BK349 := n4_; have HB := n5_; clear n0_ n1_ n2_ n3_ n4_ n5_; obtain ⟨hcz65_0, hfz65_0⟩ := bz1_ BK349; obtain ⟨hcz66_0, hfz66_0⟩ := bz1_ BK340) | ((with_reducible refine gc_ 102 rfl ?_); refine gl_ 42 Try.func102 #[.agg #[.slice Ao62 y350.length co62], .int .i64 (l0_0.length : Int)] ?_; (with_reducible refine (impl_Heap_up.calls kj2 (fun k_ => some k_ = (.slice Ao62 y350.length co62 : Value).ownBlock) (.slice Ao62 y350.length co62) y350 (l0_0.length : Int) t353 t354 w _ ?side1 ?side2 A45.out).mono ?_); (case side1 => repeat (first | (with_reducible first | exact HB.out | apply below_alloc | apply pw_below_drewN | apply below_drew1 | refine below_set ?_ GE340.out | refine below_set ?_ GE341.out | refine below_set ?_ GE342.out | refine below_set ?_ GE349.out) | exact HB.out)); (case side2 => exact Kd.R_tight rfl HO352.out); rintro e w67 ⟨rfl, hy0, hb, hkp⟩; refine ⟨_, rfl, ?_⟩; replace BK340 := Aside0.mk (blk_kept (bk_ BK340) hkp (fun hs_ => (fun e_ => (Kd.R_ne HO352.out BK340.out (by decide)) e_) hs_)); replace BK341 := Aside0.mk (blk_kept (bk_ BK341) hkp (fun hs_ => (fun e_ => (Kd.R_away HO352.out (fun _ hk => by first | exact hk | grind)) e_) hs_)); replace BK342 := Aside0.mk (blk_kept (bk_ BK342) hkp (fun hs_ => (fun e_ => (Kd.R_ne HO352.out BK342.out (by decide)) e_) hs_)); replace BK349 := Aside0.mk (blk_kept (bk_ BK349) hkp (fun hs_ => (fun e_ => (Kd.R_ne HO352.out BK349.out (by decide)) e_) hs_)); replace HO352 := Aside0.mk (Kd.R_reok rfl hy0 (fun k_ e_ => HO352.out.1 k_ e_)); replace HB := Aside0.mk (hb); (try clear hb); (try clear hkp); (try clear hy0); obtain ⟨hcz68_0, hfz68_0⟩ := bz1_ BK349; obtain ⟨hcz69_0, hfz69_0⟩ := bz1_ BK342))
       refine bodyPost_ret (results_ct rfl _ _ gb342 29 #[.slice Ao62 y350.length co62] (0, 0) _ rfl (by (with_reducible repeat (first | refine blk_drewN ?_ _ | refine blk_drew ?_ | refine blk_alloc ?_ _)); refine blk_put (cs := #[.slice none 0 0]) ?_ 0 _ rfl; exact bk_ BK342) Try.underlying29 rfl (by kernel_rfl)) rfl ?_
       exact ⟨_, by first | rfl | (simp [errW_none, errW_some] <;> rfl) | (simp [*, errW_none, errW_some] <;> rfl), by (with_reducible repeat (first | apply Kd.R_alloc | apply Kd.R_drewN | apply Kd.R_drew)); exact Kd.R_mono (Kd.R_far (p := ⟨gb342, 0, none⟩) (Kd.R_types HO352.out BK342.out (by decide)) (fun _ hk => by first | exact hk.2 | grind) (.slice Ao62 y350.length co62)) (fun _ hk => by first | exact trivial | grind), bf_ HB⟩
      ·rw [if_neg c44] at H
       exact absurd H (by simp)

/-! ### impl_HeapMove: function 44 -/
def impl_HeapMove.j0 : Nat → Int → Bool → List (S68) → Int → Int → Option ((List (S68)) × Int)
  | 0, _, _, _, _, _ => none
  | k + 1, x6, x12, x356000, x357000, x357001 => if x12 = true then (some (([] : List (S68)), 1)) else (if x6 < 0 then (some (([] : List (S68)), 4)) else ((impl_copyHeap.f x356000).bind fun t361 => (if 0 ≤ x6 then (if x6 < (t361.length : Int) then ((impl_Heap_up.f k (t361.set (x6 : Int).toNat (⟨x357000, x357001⟩ : S68)) x6).bind fun bt366 => ((impl_Heap_down.f k bt366.2 bt366.1).bind fun t368 => (some (t368, 0)))) else (none)) else (none))))
def impl_HeapMove.f (k : Nat) (l0_0 : List (S68)) (a1_0 : Int) (a1_1 : Int) : Option ((List (S68)) × Int) := (impl_Heap_place.f l0_0 a1_1).bind fun t358 => ((impl_HeapOk.f k l0_0).bind fun t359 => (if t359 = true then ((impl_ItemOk.f a1_0 a1_1).bind fun t360 => (impl_HeapMove.j0 k t358 (!t360) l0_0 a1_0 a1_1)) else (impl_HeapMove.j0 k t358 true l0_0 a1_0 a1_1)))
theorem impl_HeapMove.mono_l : ∀ k, (∀ y0 y1 y2 y3 y4, LeO (impl_HeapMove.j0 k y0 y1 y2 y3 y4) (impl_HeapMove.j0 (k + 1) y0 y1 y2 y3 y4))
 | 0 => fun _ _ _ _ _ r h => by simp [impl_HeapMove.j0] at h
 | k + 1 => by
  have ih0 := impl_HeapMove.mono_l k
  ·intro y0 y1 y2 y3 y4
   unfold impl_HeapMove.j0
   repeat' (first | (with_reducible exact ih0 ..) | (with_reducible exact impl_HeapOk.mono _ _) | (with_reducible exact impl_Heap_down.mono _ _ _) | (with_reducible exact impl_Heap_up.mono _ _ _) | (with_reducible exact LeO.refl _) | (with_reducible exact LeO.none _) | (with_reducible refine LeO.ite ?_ ?_) | (with_reducible refine LeO.bind ?_ (fun _ => ?_)) | exact ih0 .. | exact impl_HeapOk.mono _ _ | exact impl_Heap_down.mono _ _ _ | exact impl_Heap_up.mono _ _ _ | exact LeO.none _ | refine LeO.ite ?_ ?_ | refine LeO.bind ?_ (fun _ => ?_))
theorem impl_HeapMove.mono : ∀ a0 a1 a2 k, LeO (impl_HeapMove.f k a0 a1 a2) (impl_HeapMove.f (k + 1) a0 a1 a2) := by
 intro a0 a1 a2 k
 have ih0 := impl_HeapMove.mono_l k
 unfold impl_HeapMove.f
 repeat' (first | (with_reducible exact ih0 ..) | (with_reducible exact impl_HeapOk.mono _ _) | (with_reducible exact impl_Heap_down.mono _ _ _) | (with_reducible exact impl_Heap_up.mono _ _ _) | (with_reducible exact LeO.refl _) | (with_reducible exact LeO.none _) | (with_reducible refine LeO.ite ?_ ?_) | (with_reducible refine LeO.bind ?_ (fun _ => ?_)) | exact ih0 .. | exact impl_HeapOk.mono _ _ | exact impl_Heap_down.mono _ _ _ | exact impl_Heap_up.mono _ _ _ | exact LeO.none _ | refine LeO.ite ?_ ?_ | refine LeO.bind ?_ (fun _ => ?_))
set_option maxHeartbeats 8000000 in
set_option maxRecDepth 100000 in
theorem impl_HeapMove.calls (k : Nat) (A0_0 : Option Addr) (c0_0 : Nat) (l0_0 : List (S68)) (a1_0 : Int) (a1_1 : Int) (r1 : List (S68)) (r2 : Int) (w : World) (hr0_0 : Kd.C k68 w A0_0 l0_0.length l0_0) (hc0_0 : l0_0.length ≤ c0_0) (h : impl_HeapMove.f k l0_0 a1_0 a1_1 = some (r1, r2)) :
  Calls Try.prog 44 #[.agg #[.slice A0_0 l0_0.length c0_0], .agg #[.int .i64 a1_0, .int .i64 a1_1]] w fun e w' => ∃ v0_ : Value, e = .returned (.tuple #[.agg #[v0_], .int .i64 r2]) ∧ Kd.R k68 68 w' w.heap.size (fun _ => True) v0_ r1 ∧ Below w.heap.size w w' := by
 have hu29 := Try.underlying29; have hu68 := Try.underlying68
 have HR0_0 := Aside0.mk hr0_0
 have HC0_0 := Aside0.mk hc0_0
 clear hr0_0 hc0_0; have HB := Aside0.mk (Below.refl w.heap.size w)
 have H := h
 clear h
 unfold impl_HeapMove.f at H
 replace H := Option.bind_eq_some_iff.mp H
 obtain ⟨t358, A30, H⟩ := H
 have A3 := Aside0.mk A30
 clear A30
 have HC4 := Aside0.mk H
 clear H
 go_enter Try.func44, Try.ntmps44
 go_upto_region 2 with (first | ((with_reducible refine gd_ 2 rfl ?_); refine bv_ 2 #[.slice A0_0 l0_0.length c0_0] 29 ?_; intro gb355 hg w5 hbox hb; have BK355 := Aside0.mk (hbox); have GW355 := gw_ HB hg; have GE355 := gw_ HB hg; replace HB := Aside0.mk (below_step (be_ HB) hb); clear hb hbox hg) | ((with_reducible refine gd_ 3 rfl ?_); refine bv_ 3 #[.int .i64 a1_0, .int .i64 a1_1] 68 ?_; intro gb356 hg w6 hbox hb; have BK356 := Aside0.mk (hbox); have GW356 := gw_ HB hg; have GE356 := gw_ HB hg; replace HB := Aside0.mk (below_step (bf_ HB) hb); have NB355_356 := nl_ BK355 hg; have NB356_355 := ng_ BK355 hg; replace BK355 := bb_ BK355 hb; clear hb hbox hg) | ((with_reducible refine gd_ 4 rfl ?_); refine bv_ 4 #[.slice none 0 0] 29 ?_; intro gb357 hg w7 hbox hb; have BK357 := Aside0.mk (hbox); have GW357 := gw_ HB hg; have GE357 := gw_ HB hg; replace HB := Aside0.mk (below_step (bf_ HB) hb); have NB355_357 := nl_ BK355 hg; have NB357_355 := ng_ BK355 hg; replace BK355 := bb_ BK355 hb; have NB356_357 := nl_ BK356 hg; have NB357_356 := ng_ BK356 hg; replace BK356 := bb_ BK356 hb; clear hb hbox hg; have hnb8 := NB355_356.out; have hnc8 := NB356_355.out; have hnb9 := NB355_357.out; have hnc9 := NB357_355.out; obtain ⟨hcz10_0, hfz10_0⟩ := bz1_ BK355; have hnb11 := NB356_357.out; have hnc11 := NB357_356.out; obtain ⟨hcz12_0, hcz12_1, hfz12_0, hfz12_1⟩ := bz2_ BK356) | ((with_reducible refine gc_ 95 rfl ?_); refine gl_ 11 Try.func95 #[.agg #[.slice A0_0 l0_0.length c0_0], .int .i64 a1_1] ?_; (with_reducible refine (impl_Heap_place.calls _ _ l0_0 a1_1 t358 _ ?side1 ?side2 A3.out).mono ?_); (case side1 => repeat (first | exact (Kd.C_below HR0_0.out HB.out) | (with_reducible refine Kd.C_alloc ?_ _) | (with_reducible refine Kd.C_drewN ?_ _) | (with_reducible refine Kd.C_drew ?_))); (case side2 => exact HC0_0.out); rintro e w13 ⟨rfl, hb⟩; refine ⟨_, rfl, ?_⟩; replace BK355 := bb_ BK355 hb; replace BK356 := bb_ BK356 hb; replace BK357 := bb_ BK357 hb; replace HB := Aside0.mk (below_step (bf_ HB) hb); (try clear hb); (try clear hb2); (try clear hk); (try clear hi)))
 (try simp only [Act.put, ls0_, ls1_, ls2_])
 go_cut [12] (fun v12 wc => ∃ (kq : Nat) (x12_3 : Bool), v12 = .bool x12_3 ∧ Aside0 (impl_HeapMove.j0 kq t358 x12_3 l0_0 a1_0 a1_1 = some (r1, r2)) ∧ Aside0 (kq ≤ k) ∧ Aside0 (wc.heap[gb355]? = some (.cells #[(.slice A0_0 l0_0.length c0_0)] 29 (0, 0))) ∧ Aside0 (wc.heap[gb356]? = some (.cells #[.int .i64 a1_0, .int .i64 a1_1] 68 (0, 0))) ∧ Aside0 (wc.heap[gb357]? = some (.cells #[(.slice none 0 0)] 29 (0, 0))) ∧ Aside0 (Below w.heap.size w wc))
 case first =>
  have H := HC4.out
  clear HC4
  replace H := Option.bind_eq_some_iff.mp H
  obtain ⟨t359, A140, H⟩ := H
  have A14 := Aside0.mk A140
  clear A140
  by_cases c15 : t359 = true
  ·subst c15
   rw [if_pos rfl] at H
   replace H := Option.bind_eq_some_iff.mp H
   obtain ⟨t360, A160, H⟩ := H
   have A16 := Aside0.mk A160
   clear A160
   have H' := Aside0.mk H
   clear H; have hnb17 := NB355_356.out; have hnc17 := NB356_355.out; have hnb18 := NB355_357.out; have hnc18 := NB357_355.out; obtain ⟨hcz19_0, hfz19_0⟩ := bz1_ BK355
   go_wp2_with (first | ((with_reducible refine gc_ 41 rfl ?_); refine gl_ 14 Try.func41 #[.agg #[.slice A0_0 l0_0.length c0_0]] ?_; (with_reducible refine (impl_HeapOk.calls k _ _ l0_0 true _ ?side1 ?side2 A14.out).mono ?_); (case side1 => repeat (first | exact (Kd.C_below HR0_0.out HB.out) | (with_reducible refine Kd.C_alloc ?_ _) | (with_reducible refine Kd.C_drewN ?_ _) | (with_reducible refine Kd.C_drew ?_))); (case side2 => exact HC0_0.out); rintro e w20 ⟨rfl, hb⟩; refine ⟨_, rfl, ?_⟩; replace BK355 := bb_ BK355 hb; replace BK356 := bb_ BK356 hb; replace BK357 := bb_ BK357 hb; replace HB := Aside0.mk (below_step (bf_ HB) hb); (try clear hb); (try clear hb2); (try clear hk); (try clear hi); have hnb21 := NB356_357.out; have hnc21 := NB357_356.out; obtain ⟨hcz22_0, hcz22_1, hfz22_0, hfz22_1⟩ := bz2_ BK356) | (go_at_call 101; (with_reducible refine (impl_ItemOk.calls a1_0 a1_1 t360 _ A16.out).mono ?_); rintro e w23 ⟨rfl, hb⟩; replace BK355 := bb_ BK355 hb; replace BK356 := bb_ BK356 hb; replace BK357 := bb_ BK357 hb; replace HB := Aside0.mk (below_step (bf_ HB) hb); (try clear hb); (try clear hb2); (try clear hk); (try clear hi)))
   go_meet
   case rel => exact ⟨_, (!t360), (by first | rfl | (simp; done) | (simp [*]; done)), H', ⟨by first | omega | exact Nat.le_refl _⟩, ⟨bk_ BK355⟩, ⟨bk_ BK356⟩, ⟨bk_ BK357⟩, ⟨bf_ HB⟩⟩
  ·replace c15 := Bool.eq_false_iff.mpr c15
   subst c15
   rw [if_neg (show ¬ (false = true) by decide)] at H
   have H' := Aside0.mk H
   clear H; have hnb24 := NB355_356.out; have hnc24 := NB356_355.out; have hnb25 := NB355_357.out; have hnc25 := NB357_355.out; obtain ⟨hcz26_0, hfz26_0⟩ := bz1_ BK355
   go_wp2_with (first | ((with_reducible refine gc_ 41 rfl ?_); refine gl_ 14 Try.func41 #[.agg #[.slice A0_0 l0_0.length c0_0]] ?_; (with_reducible refine (impl_HeapOk.calls k _ _ l0_0 false _ ?side1 ?side2 A14.out).mono ?_); (case side1 => repeat (first | exact (Kd.C_below HR0_0.out HB.out) | (with_reducible refine Kd.C_alloc ?_ _) | (with_reducible refine Kd.C_drewN ?_ _) | (with_reducible refine Kd.C_drew ?_))); (case side2 => exact HC0_0.out); rintro e w27 ⟨rfl, hb⟩; refine ⟨_, rfl, ?_⟩; replace BK355 := bb_ BK355 hb; replace BK356 := bb_ BK356 hb; replace BK357 := bb_ BK357 hb; replace HB := Aside0.mk (below_step (bf_ HB) hb); (try clear hb); (try clear hb2); (try clear hk); (try clear hi)))
   go_meet
   case rel => exact ⟨_, (true), (by first | rfl | (simp; done) | (simp [*]; done)), H', ⟨by first | omega | exact Nat.le_refl _⟩, ⟨bk_ BK355⟩, ⟨bk_ BK356⟩, ⟨bk_ BK357⟩, ⟨bf_ HB⟩⟩
 case rest =>
  clear HC4; (try clear c1); (try clear c2); (try clear p2); (try clear c4); (try clear c8); (try clear c9); (try clear c11); (try clear c15); (try clear c17); (try clear c18); (try clear c21); (try clear c24); (try clear c25); (try clear hcz10_0 hfz10_0); (try clear hcz12_0 hcz12_1 hfz12_0 hfz12_1); (try clear hcz19_0 hfz19_0); (try clear hcz22_0 hcz22_1 hfz22_0 hfz22_1); (try clear hcz26_0 hfz26_0)
  obtain ⟨kq, x12_3, rfl, HA, HJ3, BK355, BK356, BK357, HB⟩ := hcut
  cases kq with
  | zero => exact absurd HA.out (by simp [impl_HeapMove.j0])
  | succ kj3 =>
   have H := HA.out
   clear HA
   simp only [impl_HeapMove.j0] at H
   by_cases c28 : x12_3 = true
   ·subst c28
    rw [if_pos rfl] at H
    simp only [Option.some.injEq, Prod.mk.injEq] at H
    obtain ⟨rfl, rfl⟩ := H
    have hnb29 := NB357_355.out; have hnc29 := NB355_357.out; have hnb30 := NB357_356.out; have hnc30 := NB356_357.out; obtain ⟨hcz31_0, hfz31_0⟩ := bz1_ BK357
    go_wp2
    refine bodyPost_ret (results_ct rfl _ _ gb357 29 #[.slice none 0 0] (0, 0) _ rfl (by (with_reducible repeat (first | refine blk_drewN ?_ _ | refine blk_drew ?_ | refine blk_alloc ?_ _)); refine blk_put (cs := #[.slice none 0 0]) ?_ 0 _ rfl; exact bk_ BK357) Try.underlying29 rfl (by kernel_rfl)) rfl ?_
    exact ⟨_, by first | rfl | (simp [errW_none, errW_some] <;> rfl) | (simp [*, errW_none, errW_some] <;> rfl), by first | exact Kd.R_nil _ _ _ _ _ | exact Kd.N_nil _ _ _ _ _ | exact Kd.V_nil _ _ _ _ _ | exact Kd.Q_nil _ _ _ _ _ | exact Kd.S_nil _ _ _ _ _, bf_ HB⟩
   ·replace c28 := Bool.eq_false_iff.mpr c28
    subst c28
    rw [if_neg (show ¬ (false = true) by decide)] at H
    by_cases c32 : t358 < 0
    ·rw [if_pos c32] at H
     have c32b0 : decide (t358 < 0) = true := decide_eq_true c32
     clear c32
     simp only [Option.some.injEq, Prod.mk.injEq] at H
     obtain ⟨rfl, rfl⟩ := H
     have hnb33 := NB357_355.out; have hnc33 := NB355_357.out; have hnb34 := NB357_356.out; have hnc34 := NB356_357.out; obtain ⟨hcz35_0, hfz35_0⟩ := bz1_ BK357
     go_wp2
     refine bodyPost_ret (results_ct rfl _ _ gb357 29 #[.slice none 0 0] (0, 0) _ rfl (by (with_reducible repeat (first | refine blk_drewN ?_ _ | refine blk_drew ?_ | refine blk_alloc ?_ _)); refine blk_put (cs := #[.slice none 0 0]) ?_ 0 _ rfl; exact bk_ BK357) Try.underlying29 rfl (by kernel_rfl)) rfl ?_
     exact ⟨_, by first | rfl | (simp [errW_none, errW_some] <;> rfl) | (simp [*, errW_none, errW_some] <;> rfl), by first | exact Kd.R_nil _ _ _ _ _ | exact Kd.N_nil _ _ _ _ _ | exact Kd.V_nil _ _ _ _ _ | exact Kd.Q_nil _ _ _ _ _ | exact Kd.S_nil _ _ _ _ _, bf_ HB⟩
    ·rw [if_neg c32] at H
     have c32b0 : decide (t358 < 0) = false := decide_eq_false c32
     clear c32
     replace H := Option.bind_eq_some_iff.mp H
     obtain ⟨t361, A360, H⟩ := H
     have A36 := Aside0.mk A360
     clear A360
     by_cases c37 : 0 ≤ t358
     ·rw [if_pos c37] at H
      have c37b0 : decide (0 ≤ t358) = true := decide_eq_true c37
      clear c37
      by_cases c38 : t358 < (t361.length : Int)
      ·rw [if_pos c38] at H
       have c38b0 : decide (t358 < (t361.length : Int)) = true := decide_eq_true c38
       clear c38
       obtain ⟨y365, hy365⟩ : ∃ y_ : List (S68), y_ = (t361.set (t358 : Int).toNat (⟨a1_0, a1_1⟩ : S68)) := ⟨_, rfl⟩
       replace H : ((impl_Heap_up.f kj3 y365 t358).bind fun bt366 => ((impl_Heap_down.f kj3 bt366.2 bt366.1).bind fun t368 => (some (t368, 0)))) = some (r1, r2) := by first | (rw [hy365]; with_reducible exact H) | (have H2_ := (Option.bind_some _ _).symm.trans H; rw [hy365]; with_reducible exact H2_) | (have H2_ := (Option.bind_some _ _).symm.trans H; with_reducible exact H2_) | with_reducible exact H | (rw [hy365]; exact H) | exact H
       have Ny365 := Aside0.mk hy365
       clear hy365
       replace H := Option.bind_eq_some_iff.mp H
       obtain ⟨⟨t366, t367⟩, A400, H⟩ := H
       have A40 := Aside0.mk A400
       clear A400
       replace H := Option.bind_eq_some_iff.mp H
       obtain ⟨t368, A410, H⟩ := H
       have A41 := Aside0.mk A410
       clear A410
       simp only [Option.some.injEq, Prod.mk.injEq] at H
       obtain ⟨rfl, rfl⟩ := H
       have hnb42 := NB355_356.out; have hnc42 := NB356_355.out; have hnb43 := NB355_357.out; have hnc43 := NB357_355.out; obtain ⟨hcz44_0, hfz44_0⟩ := bz1_ BK355
       try go_wp2_with (first | ((with_reducible refine gc_ 96 rfl ?_); refine gl_ 27 Try.func96 #[.agg #[.slice A0_0 l0_0.length c0_0]] ?_; (with_reducible refine (impl_copyHeap.calls _ _ l0_0 t361 _ ?side1 ?side2 A36.out).mono ?_); (case side1 => repeat (first | exact (Kd.C_below HR0_0.out HB.out) | (with_reducible refine Kd.C_alloc ?_ _) | (with_reducible refine Kd.C_drewN ?_ _) | (with_reducible refine Kd.C_drew ?_))); (case side2 => exact HC0_0.out); rintro e w45 ⟨v362, rfl, ho0, hb⟩; refine ⟨_, rfl, ?_⟩; have HO363 := Aside0.mk (Kd.R_lower (Kd.R_newB ho0 (g := gb356) (o := .cells #[.int .i64 a1_0, .int .i64 a1_1] 68 (0, 0)) (bk_ BK356)) (below_size (bf_ HB))); replace BK355 := bb_ BK355 hb; replace BK356 := bb_ BK356 hb; replace BK357 := bb_ BK357 hb; replace HB := Aside0.mk (below_step (bf_ HB) hb); (try clear hb); (try clear hb2); (try clear hk); (try clear hi); (try clear ho0)) | ((with_reducible refine gd_ 7 rfl ?_); refine bv_ 7 #[.slice none 0 0] 29 ?_; intro gb364 hg w46 hbox hb; replace HO363 := Aside0.mk (Kd.R_below (kr_ HO363) hb); have BK364 := Aside0.mk (hbox); have GW364 := gw_ HB hg; have GE364 := gw_ HB hg; replace HB := Aside0.mk (below_step (bf_ HB) hb); have NB355_364 := nl_ BK355 hg; have NB364_355 := ng_ BK355 hg; replace BK355 := bb_ BK355 hb; have NB356_364 := nl_ BK356 hg; have NB364_356 := ng_ BK356 hg; replace BK356 := bb_ BK356 hb; have NB357_364 := nl_ BK357 hg; have NB364_357 := ng_ BK357 hg; replace BK357 := bb_ BK357 hb; clear hb hbox hg; obtain ⟨Ao47, co47, eo47⟩ := Kd.R_slice HO363.out; subst eo47; have hnb48 := NB364_355.out; have hnc48 := NB355_364.out; have hnb49 := NB364_356.out; have hnc49 := NB356_364.out; have hnb50 := NB364_357.out; have hnc50 := NB357_364.out; obtain ⟨hcz51_0, hfz51_0⟩ := bz1_ BK364) | ((with_reducible refine gate_store (t := 29) (p := 7) rfl ?_); refine store_event (t := 29) (p := 7) (v := ?vo_w52) (w1 := (w46.setCell ⟨gb364, 0, none⟩ (.slice Ao47 t361.length co47))) ?hg ?ho ?hn ?hr ?_; (case ho => rfl); (case hg => rfl); (case hn => rfl); (case hr => first | (go_simp; done) | (go_simp; rfl)); intro w52 hw; have n0_ : Aside0 (Kd.R k68 68 w52 w.heap.size (fun k_ => k_ ≠ gb356) (.slice Ao47 t361.length co47) t361) := ⟨(by rw [hw]; exact (by (with_reducible repeat (first | apply Kd.R_alloc | apply Kd.R_drewN | apply Kd.R_drew)); exact Kd.R_mono (Kd.R_far (p := ⟨gb364, 0, none⟩) (Kd.R_types HO363.out BK364.out (by decide)) (fun _ hk => by first | exact hk.2 | grind) (.slice Ao47 t361.length co47)) (fun _ hk => by first | exact hk.1.2 | grind)))⟩; have n1_ : Aside0 (w52.heap[gb355]? = some (.cells #[.slice A0_0 l0_0.length c0_0] 29 (0, 0))) := ⟨(by rw [hw]; exact (bl_ BK355))⟩; have n2_ : Aside0 (w52.heap[gb356]? = some (.cells #[.int .i64 a1_0, .int .i64 a1_1] 68 (0, 0))) := ⟨(by rw [hw]; exact (bl_ BK356))⟩; have n3_ : Aside0 (w52.heap[gb357]? = some (.cells #[.slice none 0 0] 29 (0, 0))) := ⟨(by rw [hw]; exact (bl_ BK357))⟩; have n4_ : Aside0 (w52.heap[gb364]? = some (.cells #[.slice Ao47 t361.length co47] 29 (0, 0))) := ⟨(by rw [hw]; exact (by (with_reducible repeat (first | refine blk_drewN ?_ _ | refine blk_drew ?_ | refine blk_alloc ?_ _)); refine blk_put (cs := #[.slice none 0 0]) ?_ 0 _ rfl; exact bk_ BK364))⟩; have n5_ : Aside0 (Below w.heap.size w w52) := ⟨(by rw [hw]; exact (bf_ HB))⟩; clear hw HO363 BK355 BK356 BK357 BK364 HB; have HO363 := n0_; have BK355 := n1_; have BK356 := n2_; have BK357 := n3_; have BK364 := n4_; have HB := n5_; clear n0_ n1_ n2_ n3_ n4_ n5_; obtain ⟨hcz53_0, hfz53_0⟩ := bz1_ BK364; have hnb54 := NB356_357.out; have hnc54 := NB357_356.out; obtain ⟨hcz55_0, hcz55_1, hfz55_0, hfz55_1⟩ := bz2_ BK356; have p39 : 0 ≤ (t358 : Int) := od_; have q39 : (t358 : Int) < ((t361.length : Int) : Int) := od_; obtain ⟨go39, co39, eo39, gb39, gl39, cl39, HG39⟩ := Kd.R_form HO363.out (by omega); (first | cases eo39 | (injection eo39 with ea_ en_ ec_; (first | subst ea_ | (injection ea_ with ea_; subst ea_)); subst ec_; clear en_)); have GB39 := Aside0.mk gb39; have GG39 := Aside0.mk HG39; clear gb39 gl39 HG39; obtain ⟨ce39, hcl39, hM39, hcc39, hfr39⟩ := Kd.R_elem HO363.out z68 (t358 : Int) p39 q39; obtain rfl := k68_openM hM39; have hx39_0 : w52.cell? ⟨go39, (t358 : Int).toNat * 2, none⟩ = some (.int .i64 ((rd_T68 t361 t358).f0)) := hcc39 0 _ rfl; have hx39_1 : w52.cell? ⟨go39, (t358 : Int).toNat * 2 + 1, none⟩ = some (.int .i64 ((rd_T68 t361 t358).f1)) := hcc39 1 _ rfl; have hf39_0 : w52.frozen? ⟨go39, (t358 : Int).toNat * 2, none⟩ = false := hfr39 0; have hf39_1 : w52.frozen? ⟨go39, (t358 : Int).toNat * 2 + 1, none⟩ = false := hfr39 1; clear hcl39 hcc39 hfr39 hM39; replace p39 := eq_true p39; replace q39 := eq_true q39; have HX56 := Aside0.mk (show Kd.R k68 68 w52 w.heap.size (fun k_ => k_ ≠ gb356) (.slice (some ⟨go39, 0, none⟩) t361.length co47) t361 from (kr_ HO363)); obtain ⟨ce56, hcl56, hM56, hcc56, hfr56⟩ := Kd.R_elem HX56.out z68 (t358 : Int) (od_) (by have h_ : (t358 : Int) < ((t361.length : Int) : Int) := od_; first | exact h_ | (have e_ := (Kd.R_reads' HO363.out).1; omega) | simpa using h_); obtain rfl := k68_openM hM56; have HP56 := Kd.R_seg HX56.out (t358 : Int) (od_) (by have h_ : (t358 : Int) < ((t361.length : Int) : Int) := od_; first | exact h_ | (have e_ := (Kd.R_reads' HO363.out).1; omega) | simpa using h_) (seg := [.int .i64 a1_0, .int .i64 a1_1]) (j := 0) hcl56 hcc56 (show 2 ≤ 2 from by decide) (x' := (⟨a1_0, a1_1⟩ : S68)) (k68_mkM _ _ _ (⟨a1_0, a1_1⟩ : S68) ) (fun _ hk => by first | exact hk | grind); have hx56_0 := hcc56 0 _ rfl; (try simp only [show (k68).sz = 2 from rfl, Nat.mul_one, Nat.add_zero] at hx56_0); have hf56_0 := hfr56 0; (try simp only [show (k68).sz = 2 from rfl, Nat.mul_one, Nat.add_zero] at hf56_0); have hx56_1 := hcc56 1 _ rfl; (try simp only [show (k68).sz = 2 from rfl, Nat.mul_one, Nat.add_zero] at hx56_1); have hf56_1 := hfr56 1; (try simp only [show (k68).sz = 2 from rfl, Nat.mul_one, Nat.add_zero] at hf56_1); clear hcl56 hcc56 hfr56 hM56) | ((with_reducible refine gate_store (t := 68) (p := 32) rfl ?_); refine store_event (t := 68) (p := 32) (v := ?vo_w57) (w1 := ((w52.setCell ⟨go39, (t358 : Int).toNat * 2, none⟩ (.int .i64 a1_0)).setCell ⟨go39, (t358 : Int).toNat * 2 + 1, none⟩ (.int .i64 a1_1))) ?hg ?ho ?hn ?hr ?_; (case ho => rfl); (case hg => rfl); (case hn => rfl); (case hr => first | (go_simp; done) | (go_simp; rfl)); intro w57 hw; have hg : w52.grownBy w57 (some go39) := (by rw [hw]; exact HP56.2); have hp_ : Kd.R k68 68 w57 w.heap.size (fun k_ => k_ ≠ gb356) (.slice (some ⟨go39, 0, none⟩) t361.length co47) y365 := (by rw [hw, Ny365.out]; exact HP56.1); clear HP56; replace BK355 := Aside0.mk (blk_grown (g := gb355) (o := .cells #[.slice A0_0 l0_0.length c0_0] 29 (0, 0)) (bk_ BK355) hg (Kd.R_ne HO363.out BK355.out (by decide))); replace BK356 := Aside0.mk (blk_grown (g := gb356) (o := .cells #[.int .i64 a1_0, .int .i64 a1_1] 68 (0, 0)) (bk_ BK356) hg (Kd.R_away HO363.out (fun _ hk => by first | exact hk | grind))); replace BK357 := Aside0.mk (blk_grown (g := gb357) (o := .cells #[.slice none 0 0] 29 (0, 0)) (bk_ BK357) hg (Kd.R_ne HO363.out BK357.out (by decide))); replace BK364 := Aside0.mk (blk_grown (g := gb364) (o := .cells #[.slice (some ⟨go39, 0, none⟩) t361.length co47] 29 (0, 0)) (bk_ BK364) hg (Kd.R_ne HO363.out BK364.out (by decide))); replace HO363 := Aside0.mk (hp_); replace HB := Aside0.mk ((by rw [hw]; exact below_set (below_set (HB.out) GB39.out) GB39.out : Below w.heap.size w w57)); clear hg hw hp_))
       replace HO363 := Aside0.mk (Kd.R_drew HO363.out); replace BK355 := Aside0.mk (blk_drew BK355.out); replace BK356 := Aside0.mk (blk_drew BK356.out); replace BK357 := Aside0.mk (blk_drew BK357.out); replace BK364 := Aside0.mk (blk_drew BK364.out); replace HB := Aside0.mk (below_drew1 HB.out)
       refine start_ (n := 5) (S := fun w' => cw_ w' gb364 0 (.slice (some ⟨go39, 0, none⟩) t361.length co47)) (ds := []) (bs 5 0) (by kernel_rfl) rfl rfl ((blk_cell BK364.out 0).trans rfl) (fun hHeld => ?_)
       generalize w57.drew = w58 at HO363 BK355 BK356 BK357 BK364 HB hHeld ⊢
       refine ps0_ 2 35 #[oF,oF,oT,oF,oF] ?_
       refine tk0_ 0 33 #[oT,oF,oT,oF,oF] hHeld ?_
       refine tk0_ 1 34 (bs 5 3) hHeld ?_
       refine on0_ 3 (some 36) (bs 5 4) (fun K hK => ?_)
       refine gs_ Try.func102 #[.agg #[.slice (some ⟨go39, 0, none⟩) t361.length co47], .int .i64 t358] ?_
       with_reducible refine (impl_Heap_up.calls kj3 (fun k_ => some k_ = (.slice (some ⟨go39, 0, none⟩) t361.length co47 : Value).ownBlock) (.slice (some ⟨go39, 0, none⟩) t361.length co47) y365 t358 t366 t367 w _ ?side1 ?side2 A40.out).mono ?_
       (case side1 => repeat (first | (with_reducible first | exact HB.out | apply below_alloc | apply pw_below_drewN | apply below_drew1 | refine below_set ?_ GE355.out | refine below_set ?_ GE356.out | refine below_set ?_ GE357.out | refine below_set ?_ GE364.out) | exact HB.out))
       (case side2 => exact Kd.R_tight rfl HO363.out)
       rintro e w59 ⟨rfl, hy0, hb, hkp⟩
       refine ⟨_, rfl, ?_⟩
       have n0_ := Aside0.mk (blk_kept (bk_ BK355) hkp (fun hs_ => (fun e_ => (Kd.R_ne HO363.out BK355.out (by decide)) e_) hs_))
       have n1_ := Aside0.mk (blk_kept (bk_ BK356) hkp (fun hs_ => (fun e_ => (Kd.R_away HO363.out (fun _ hk => by first | exact hk | grind)) e_) hs_))
       have n2_ := Aside0.mk (blk_kept (bk_ BK357) hkp (fun hs_ => (fun e_ => (Kd.R_ne HO363.out BK357.out (by decide)) e_) hs_))
       have n3_ := Aside0.mk (Kd.R_reok rfl hy0 (fun k_ e_ => HO363.out.1 k_ e_))
       have n4_ := Aside0.mk (blk_kept (bk_ BK364) hkp (fun hs_ => (fun e_ => (Kd.R_ne HO363.out BK364.out (by decide)) e_) hs_))
       have n5_ := Aside0.mk (hb); clear BK355 BK356 BK357 HO363 BK364 HB; have BK355 := n0_; have BK356 := n1_; have BK357 := n2_; have HO363 := n3_; have BK364 := n4_; have HB := n5_; clear n0_ n1_ n2_ n3_ n4_ n5_; (try clear hb); (try clear hkp); (try clear hy0)
       refine hK.out _ _ ((blk_cell BK364.out 0).trans rfl) (fun hHeld => ?_)
       clear hK K
       refine norm_ (a' := ?_) ?_ ?_
       rotate_left
       ·show Act.put _ (some 36) _ = _
        simp only [Act.put, ls0_, ls1_, ls2_, i64_w, i32_w]
        rfl
       refine on0_ 4 (some 37) (bs 5 5) (fun K hK => ?_)
       refine gs_ Try.func103 #[.agg #[.slice (some ⟨go39, 0, none⟩) t361.length co47], .int .i64 t366] ?_
       with_reducible refine (impl_Heap_down.calls kj3 (fun k_ => some k_ = (.slice (some ⟨go39, 0, none⟩) t361.length co47 : Value).ownBlock) (.slice (some ⟨go39, 0, none⟩) t361.length co47) t367 t366 t368 w _ ?side1 ?side2 A41.out).mono ?_
       (case side1 => repeat (first | (with_reducible first | exact HB.out | apply below_alloc | apply pw_below_drewN | apply below_drew1 | refine below_set ?_ GE355.out | refine below_set ?_ GE356.out | refine below_set ?_ GE357.out | refine below_set ?_ GE364.out) | exact HB.out))
       (case side2 => exact Kd.R_tight rfl HO363.out)
       rintro e w60 ⟨rfl, hy0, hb, hkp⟩
       refine ⟨_, rfl, ?_⟩
       have n0_ := Aside0.mk (blk_kept (bk_ BK355) hkp (fun hs_ => (fun e_ => (Kd.R_ne HO363.out BK355.out (by decide)) e_) hs_))
       have n1_ := Aside0.mk (blk_kept (bk_ BK356) hkp (fun hs_ => (fun e_ => (Kd.R_away HO363.out (fun _ hk => by first | exact hk | grind)) e_) hs_))
       have n2_ := Aside0.mk (blk_kept (bk_ BK357) hkp (fun hs_ => (fun e_ => (Kd.R_ne HO363.out BK357.out (by decide)) e_) hs_))
       have n3_ := Aside0.mk (Kd.R_reok rfl hy0 (fun k_ e_ => HO363.out.1 k_ e_))
       have n4_ := Aside0.mk (blk_kept (bk_ BK364) hkp (fun hs_ => (fun e_ => (Kd.R_ne HO363.out BK364.out (by decide)) e_) hs_))
       have n5_ := Aside0.mk (hb); clear BK355 BK356 BK357 HO363 BK364 HB; have BK355 := n0_; have BK356 := n1_; have BK357 := n2_; have HO363 := n3_; have BK364 := n4_; have HB := n5_; clear n0_ n1_ n2_ n3_ n4_ n5_; (try clear hb); (try clear hkp); (try clear hy0)
       refine hK.out _ _ ((blk_cell BK364.out 0).trans rfl) (fun hHeld => ?_)
       clear hK K
       refine norm_ (a' := ?_) ?_ ?_
       rotate_left
       ·show Act.put _ (some 37) _ = _
        simp only [Act.put, ls0_, ls1_, ls2_, i64_w, i32_w]
        rfl
       refine done_ (by kernel_rfl) ?_
       have hcz61_0 := bc_ BK364 0 (.slice (some ⟨go39, 0, none⟩) t361.length co47) rfl
       have hfz61_0 := blk_frozen BK364.out 0; obtain ⟨hcz62_0, hfz62_0⟩ := bz1_ BK357
       try go_wp2
       refine bodyPost_ret (results_ct rfl _ _ gb357 29 #[.slice (some ⟨go39, 0, none⟩) t361.length co47] (0, 0) _ rfl (by (with_reducible repeat (first | refine blk_drewN ?_ _ | refine blk_drew ?_ | refine blk_alloc ?_ _)); refine blk_put (cs := #[.slice none 0 0]) ?_ 0 _ rfl; exact bk_ BK357) Try.underlying29 rfl (by kernel_rfl)) rfl ?_
       exact ⟨_, by first | rfl | (simp [errW_none, errW_some] <;> rfl) | (simp [*, errW_none, errW_some] <;> rfl), by (with_reducible repeat (first | apply Kd.R_alloc | apply Kd.R_drewN | apply Kd.R_drew)); exact Kd.R_mono (Kd.R_far (p := ⟨gb357, 0, none⟩) (Kd.R_types HO363.out BK357.out (by decide)) (fun _ hk => by first | exact hk.2 | grind) (.slice (some ⟨go39, 0, none⟩) t361.length co47)) (fun _ hk => by first | exact trivial | grind), bf_ HB⟩
      ·rw [if_neg c38] at H
       exact absurd H (by simp)
     ·rw [if_neg c37] at H
      exact absurd H (by simp)

/-! ### impl_HeapPlace: function 45 -/
def impl_HeapPlace.f (k : Nat) (l0_0 : List (S68)) (a1 : Int) : Option (Int) := (impl_HeapOk.f k l0_0).bind fun t370 => (if t370 = true then ((impl_Heap_place.f l0_0 a1).bind fun t371 => (some t371)) else (some (-1)))
theorem impl_HeapPlace.mono : ∀ a0 a1 k, LeO (impl_HeapPlace.f k a0 a1) (impl_HeapPlace.f (k + 1) a0 a1) := by
 intro a0 a1 k
 unfold impl_HeapPlace.f
 repeat' (first | (with_reducible exact impl_HeapOk.mono _ _) | (with_reducible exact LeO.refl _) | (with_reducible exact LeO.none _) | (with_reducible refine LeO.ite ?_ ?_) | (with_reducible refine LeO.bind ?_ (fun _ => ?_)) | exact impl_HeapOk.mono _ _ | exact LeO.none _ | refine LeO.ite ?_ ?_ | refine LeO.bind ?_ (fun _ => ?_))
set_option maxHeartbeats 8000000 in
set_option maxRecDepth 100000 in
theorem impl_HeapPlace.calls (k : Nat) (A0_0 : Option Addr) (c0_0 : Nat) (l0_0 : List (S68)) (a1 : Int) (r : Int) (w : World) (hr0_0 : Kd.C k68 w A0_0 l0_0.length l0_0) (hc0_0 : l0_0.length ≤ c0_0) (h : impl_HeapPlace.f k l0_0 a1 = some r) :
  Calls Try.prog 45 #[.agg #[.slice A0_0 l0_0.length c0_0], .int .i64 a1] w fun e w' => e = .returned (.int .i64 r) ∧ Below w.heap.size w w' := by
 have hu29 := Try.underlying29
 have HR0_0 := Aside0.mk hr0_0
 have HC0_0 := Aside0.mk hc0_0
 clear hr0_0 hc0_0; have HB := Aside0.mk (Below.refl w.heap.size w)
 have H := h
 clear h
 unfold impl_HeapPlace.f at H
 replace H := Option.bind_eq_some_iff.mp H
 obtain ⟨t370, A30, H⟩ := H
 have A3 := Aside0.mk A30
 clear A30
 by_cases c4 : t370 = true
 ·subst c4
  rw [if_pos rfl] at H
  replace H := Option.bind_eq_some_iff.mp H
  obtain ⟨t371, A50, H⟩ := H
  have A5 := Aside0.mk A50
  clear A50
  obtain rfl := Option.some.inj H
  go_enter Try.func45, Try.ntmps45
  go_wp2_with (first | ((with_reducible refine gd_ 2 rfl ?_); refine bv_ 2 #[.slice A0_0 l0_0.length c0_0] 29 ?_; intro gb369 hg w6 hbox hb; have BK369 := Aside0.mk (hbox); have GW369 := gw_ HB hg; have GE369 := gw_ HB hg; replace HB := Aside0.mk (below_step (be_ HB) hb); clear hb hbox hg; obtain ⟨hcz7_0, hfz7_0⟩ := bz1_ BK369) | ((with_reducible refine gc_ 41 rfl ?_); refine gl_ 6 Try.func41 #[.agg #[.slice A0_0 l0_0.length c0_0]] ?_; (with_reducible refine (impl_HeapOk.calls k _ _ l0_0 true _ ?side1 ?side2 A3.out).mono ?_); (case side1 => repeat (first | exact (Kd.C_below HR0_0.out HB.out) | (with_reducible refine Kd.C_alloc ?_ _) | (with_reducible refine Kd.C_drewN ?_ _) | (with_reducible refine Kd.C_drew ?_))); (case side2 => exact HC0_0.out); rintro e w8 ⟨rfl, hb⟩; refine ⟨_, rfl, ?_⟩; replace BK369 := bb_ BK369 hb; replace HB := Aside0.mk (below_step (bf_ HB) hb); (try clear hb); (try clear hb2); (try clear hk); (try clear hi); obtain ⟨hcz9_0, hfz9_0⟩ := bz1_ BK369) | ((with_reducible refine gc_ 95 rfl ?_); refine gl_ 10 Try.func95 #[.agg #[.slice A0_0 l0_0.length c0_0], .int .i64 a1] ?_; (with_reducible refine (impl_Heap_place.calls _ _ l0_0 a1 t371 _ ?side1 ?side2 A5.out).mono ?_); (case side1 => repeat (first | exact (Kd.C_below HR0_0.out HB.out) | (with_reducible refine Kd.C_alloc ?_ _) | (with_reducible refine Kd.C_drewN ?_ _) | (with_reducible refine Kd.C_drew ?_))); (case side2 => exact HC0_0.out); rintro e w10 ⟨rfl, hb⟩; refine ⟨_, rfl, ?_⟩; replace BK369 := bb_ BK369 hb; replace HB := Aside0.mk (below_step (bf_ HB) hb); (try clear hb); (try clear hb2); (try clear hk); (try clear hi)))
  go_ret
  exact ⟨by first | rfl | (simp [errW_none, errW_some] <;> rfl) | (simp [*, errW_none, errW_some] <;> rfl), bf_ HB⟩
 ·replace c4 := Bool.eq_false_iff.mpr c4
  subst c4
  rw [if_neg (show ¬ (false = true) by decide)] at H
  obtain rfl := Option.some.inj H
  go_enter Try.func45, Try.ntmps45
  go_wp2_with (first | ((with_reducible refine gd_ 2 rfl ?_); refine bv_ 2 #[.slice A0_0 l0_0.length c0_0] 29 ?_; intro gb369 hg w11 hbox hb; have BK369 := Aside0.mk (hbox); have GW369 := gw_ HB hg; have GE369 := gw_ HB hg; replace HB := Aside0.mk (below_step (be_ HB) hb); clear hb hbox hg; obtain ⟨hcz12_0, hfz12_0⟩ := bz1_ BK369) | ((with_reducible refine gc_ 41 rfl ?_); refine gl_ 6 Try.func41 #[.agg #[.slice A0_0 l0_0.length c0_0]] ?_; (with_reducible refine (impl_HeapOk.calls k _ _ l0_0 false _ ?side1 ?side2 A3.out).mono ?_); (case side1 => repeat (first | exact (Kd.C_below HR0_0.out HB.out) | (with_reducible refine Kd.C_alloc ?_ _) | (with_reducible refine Kd.C_drewN ?_ _) | (with_reducible refine Kd.C_drew ?_))); (case side2 => exact HC0_0.out); rintro e w13 ⟨rfl, hb⟩; refine ⟨_, rfl, ?_⟩; replace BK369 := bb_ BK369 hb; replace HB := Aside0.mk (below_step (bf_ HB) hb); (try clear hb); (try clear hb2); (try clear hk); (try clear hi)))
  go_ret
  exact ⟨by first | rfl | (simp [errW_none, errW_some] <;> rfl) | (simp [*, errW_none, errW_some] <;> rfl), bf_ HB⟩

end Go.Proofs.Ytnklakficjpmoaa.PFnHeapBook
