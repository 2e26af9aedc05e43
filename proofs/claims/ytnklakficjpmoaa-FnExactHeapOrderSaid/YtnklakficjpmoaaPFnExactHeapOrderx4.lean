-- printed by a program of this session (wip/printx) out of the translation; Lean checks it
import Derived.Test.YtnklakficjpmoaaPFnExactHeapOrderx0
import Derived.Test.YtnklakficjpmoaaPFnExactHeapOrderx3
namespace Go.Proofs.Ytnklakficjpmoaa.PFnExactHeapOrder
open Go.RowKit Go.Proofs.YtnklakficjpmoaaW.PrintWords Go.Proofs.YtnklakficjpmoaaW.PrintLast Go.Proofs.YtnklakficjpmoaaW.PrintMore
attribute [local go_sem] max2_int min2_int max_two min_two max_three min_three max_four min_four   -- for this text's walks alone
set_option linter.unusedVariables false
set_option linter.unusedSimpArgs false

/-! ### impl_HeapOk: function 41 -/
def impl_HeapOk.l0 : Nat → List (S68) → Int → Int → List (S68) → Option (Bool)
  | 0, _, _, _, _ => none
  | k + 1, x6, x7, x8, x195000 => if x8 < x7 then (if 0 ≤ x8 then (if x8 < (x6.length : Int) then ((impl_ItemOk.f ((rd_T68 x6 x8).f0) ((rd_T68 x6 x8).f1)).bind fun t197 => (if t197 = true then ((impl_Heap_place.f x195000 ((rd_T68 x6 x8).f1)).bind fun t198 => (if t198 = x8 then (if x8 > 0 then (if 0 ≤ (wrap64 (Int.tdiv (wrap64 (x8 - 1)) 2)) then (if (wrap64 (Int.tdiv (wrap64 (x8 - 1)) 2)) < (x195000.length : Int) then ((impl_Ahead.f ((rd_T68 x6 x8).f0) ((rd_T68 x6 x8).f1) ((rd_T68 x195000 (wrap64 (Int.tdiv (wrap64 (x8 - 1)) 2))).f0) ((rd_T68 x195000 (wrap64 (Int.tdiv (wrap64 (x8 - 1)) 2))).f1)).bind fun t200 => (if t200 = true then (some false) else (impl_HeapOk.l0 k x6 x7 (wrap64 (x8 + 1)) x195000))) else (none)) else (none)) else (impl_HeapOk.l0 k x6 x7 (wrap64 (x8 + 1)) x195000)) else (some false))) else (some false))) else (none)) else (none)) else (some (decide ((x195000.length : Int) ≤ 64)))
def impl_HeapOk.f (k : Nat) (l0_0 : List (S68)) : Option (Bool) := impl_HeapOk.l0 k l0_0 (l0_0.length : Int) 0 l0_0
theorem impl_HeapOk.mono_l : ∀ k, (∀ y0 y1 y2 y3, LeO (impl_HeapOk.l0 k y0 y1 y2 y3) (impl_HeapOk.l0 (k + 1) y0 y1 y2 y3))
 | 0 => fun _ _ _ _ r h => by simp [impl_HeapOk.l0] at h
 | k + 1 => by
  have ih0 := impl_HeapOk.mono_l k
  ·intro y0 y1 y2 y3
   unfold impl_HeapOk.l0
   repeat' first
   | (with_reducible exact ih0 _ _ _ _)
   | (with_reducible exact LeO.refl _)
   | (with_reducible exact LeO.none _)
   | (with_reducible refine LeO.ite ?_ ?_)
   | (with_reducible refine LeO.bind ?_ (fun _ => ?_))
   | exact ih0 _ _ _ _
   | exact LeO.none _
   | refine LeO.ite ?_ ?_
   | refine LeO.bind ?_ (fun _ => ?_)
theorem impl_HeapOk.mono : ∀ a0 k, LeO (impl_HeapOk.f k a0) (impl_HeapOk.f (k + 1) a0) := by
 intro a0 k
 have ih0 := impl_HeapOk.mono_l k
 unfold impl_HeapOk.f
 repeat' first
   | (with_reducible exact ih0 _ _ _ _)
   | (with_reducible exact LeO.refl _)
   | (with_reducible exact LeO.none _)
   | (with_reducible refine LeO.ite ?_ ?_)
   | (with_reducible refine LeO.bind ?_ (fun _ => ?_))
   | exact ih0 _ _ _ _
   | exact LeO.none _
   | refine LeO.ite ?_ ?_
   | refine LeO.bind ?_ (fun _ => ?_)
def impl_HeapOk.T4 : Bool × List (List Nat × List Nat) := (true, [([], []), ([0], [0]), ([1], [1]), ([2, 1], [2]), ([3], [3]), ([3], [3]), ([5, 3], [3, 5]), ([4, 6, 3, 3], [3, 4, 6]), ([3], [3]), ([7, 8, 3], [3, 7, 8]), ([3, 9], [3, 9]), ([10, 7], [10]), ([11], [11]), ([12, 11], [11, 12]), ([13, 11, 11], [11, 13]), ([14], [14]), ([14], [14]), ([16, 14], [14, 16]), ([14], [14]), ([18, 14], [14, 18]), ([19, 14], [14, 19]), ([17, 20, 14], [14, 17, 20]), ([21, 14], [14, 21]), ([15, 22, 14, 14], [14, 15, 22]), ([14, 23, 11], [11, 14, 23]), ([11, 24], [11, 24])])
def impl_HeapOk.B4 : List Nat := [0, 1, 3, 7, 15, 15, 47, 127, 15, 511, 1023, 2047, 4095, 8191, 16383, 32767, 32767, 98303, 32767, 294911, 819199, 2064383, 4161535, 8388607, 16777215, 33554431]
theorem impl_HeapOk.tab4 : rtab .any (opsOf Try.f41 4) = impl_HeapOk.T4 := by kernel_rfl
theorem impl_HeapOk.bits4 : waitsOk impl_HeapOk.T4.2 impl_HeapOk.B4 = true := by kernel_rfl
set_option maxHeartbeats 8000000 in
set_option maxRecDepth 100000 in
theorem impl_HeapOk.calls (k : Nat) (A0_0 : Option Addr) (c0_0 : Nat) (l0_0 : List (S68)) (r : Bool) (w : World) (hr0_0 : Kd.C k68 w A0_0 l0_0.length l0_0) (hc0_0 : l0_0.length ≤ c0_0) (h : impl_HeapOk.f k l0_0 = some r) :
  Calls Try.prog 41 #[.agg #[.slice A0_0 l0_0.length c0_0]] w fun e w' => e = .returned (.bool r) ∧ Below w.heap.size w w' := by
 have hu29 := Try.underlying29; have hu68 := Try.underlying68
 have HR0_0 := Aside0.mk hr0_0
 have HC0_0 := Aside0.mk hc0_0
 clear hr0_0 hc0_0; have HB := Aside0.mk (Below.refl w.heap.size w)
 have H : (impl_HeapOk.l0 k l0_0 (l0_0.length : Int) 0 l0_0) = some r := h
 clear h
 have H' := Aside0.mk H
 clear H
 go_enter Try.func41, Try.ntmps41
 go_wp2_with (first | ((with_reducible refine gate_dst (N := 1) rfl ?_); refine box_event ?hg (N := 1) ?hd (cs := #[.slice A0_0 l0_0.length c0_0]) (t := 29) ?hr ?_; (case hd => rfl); (case hg => rfl); (case hr => first | (go_simp; done) | (go_simp; rfl)); intro gb194 hg w2 hbox hb; have n0_ := Aside0.mk (below_step (be_ HB) hb); have n1_ := Aside0.mk (hbox); have n2_ := gw_ HB hg; have n3_ := gw_ HB hg; clear HB; have HB := n0_; have BK194 := n1_; have GW194 := n2_; have GE194 := n3_; clear n0_ n1_ n2_ n3_; clear hb hbox hg; have hcz3_0 := bc_ BK194 0 (.slice A0_0 l0_0.length c0_0) rfl; have hfz3_0 := blk_frozen BK194.out 0))
 (try simp only [Act.put, List.setIfInBounds_toArray, List.set_cons_zero, List.set_cons_succ])
 go_loopg [8] k (fun kq v8 w' => ∃ (x8_1 : Int), v8 = .int .i64 x8_1 ∧ Aside0 (impl_HeapOk.l0 kq l0_0 (l0_0.length : Int) x8_1 l0_0 = some r) ∧ Aside0 (kq ≤ k) ∧ Aside0 (w'.heap[gb194]? = some (.cells #[(.slice A0_0 l0_0.length c0_0)] 29 (0, 0))) ∧ Aside0 (Below w.heap.size w w'))
 case atStart => exact ⟨(0), (by first | rfl | (simp; done) | (simp [*]; done)), H', ⟨Nat.le_refl _⟩, ⟨bk_ BK194⟩, ⟨bf_ HB⟩⟩
 case round =>
  clear H'
  (try clear p2); (try clear hcz3_0 hfz3_0)
  obtain ⟨x8_1, rfl, HA, HK1, BK194, HB⟩ := hrel
  cases gk with
  | zero => exact absurd HA.out (by simp [impl_HeapOk.l0])
  | succ k1 =>
   have H := HA.out
   clear HA
   simp only [impl_HeapOk.l0] at H
   by_cases c4 : x8_1 < (l0_0.length : Int)
   ·rw [if_pos c4] at H
    have c4b0 : decide (x8_1 < (l0_0.length : Int)) = true := decide_eq_true c4
    clear c4
    by_cases c5 : 0 ≤ x8_1
    ·rw [if_pos c5] at H
     have c5b0 : decide (0 ≤ x8_1) = true := decide_eq_true c5
     clear c5
     by_cases c6 : x8_1 < (l0_0.length : Int)
     ·rw [if_pos c6] at H
      have c6b0 : decide (x8_1 < (l0_0.length : Int)) = true := decide_eq_true c6
      clear c6
      replace H := Option.bind_eq_some_iff.mp H
      obtain ⟨t197, A70, H⟩ := H
      replace H : (if t197 = true then ((impl_Heap_place.f l0_0 ((rd_T68 l0_0 x8_1).f1)).bind fun t198 => (if t198 = x8_1 then (if x8_1 > 0 then (if 0 ≤ (wrap64 (Int.tdiv (wrap64 (x8_1 - 1)) 2)) then (if (wrap64 (Int.tdiv (wrap64 (x8_1 - 1)) 2)) < (l0_0.length : Int) then ((impl_Ahead.f ((rd_T68 l0_0 x8_1).f0) ((rd_T68 l0_0 x8_1).f1) ((rd_T68 l0_0 (wrap64 (Int.tdiv (wrap64 (x8_1 - 1)) 2))).f0) ((rd_T68 l0_0 (wrap64 (Int.tdiv (wrap64 (x8_1 - 1)) 2))).f1)).bind fun t200 => (if t200 = true then (some false) else (impl_HeapOk.l0 k1 l0_0 (l0_0.length : Int) (wrap64 (x8_1 + 1)) l0_0))) else (none)) else (none)) else (impl_HeapOk.l0 k1 l0_0 (l0_0.length : Int) (wrap64 (x8_1 + 1)) l0_0)) else (some false))) else (some false)) = some r := H
      have A7 := Aside0.mk A70
      clear A70
      by_cases c8 : t197 = true
      ·subst c8
       have H1 : ((impl_Heap_place.f l0_0 ((rd_T68 l0_0 x8_1).f1)).bind fun t198 => (if t198 = x8_1 then (if x8_1 > 0 then (if 0 ≤ (wrap64 (Int.tdiv (wrap64 (x8_1 - 1)) 2)) then (if (wrap64 (Int.tdiv (wrap64 (x8_1 - 1)) 2)) < (l0_0.length : Int) then ((impl_Ahead.f ((rd_T68 l0_0 x8_1).f0) ((rd_T68 l0_0 x8_1).f1) ((rd_T68 l0_0 (wrap64 (Int.tdiv (wrap64 (x8_1 - 1)) 2))).f0) ((rd_T68 l0_0 (wrap64 (Int.tdiv (wrap64 (x8_1 - 1)) 2))).f1)).bind fun t200 => (if t200 = true then (some false) else (impl_HeapOk.l0 k1 l0_0 (l0_0.length : Int) (wrap64 (x8_1 + 1)) l0_0))) else (none)) else (none)) else (impl_HeapOk.l0 k1 l0_0 (l0_0.length : Int) (wrap64 (x8_1 + 1)) l0_0)) else (some false))) = some r := by rw [if_pos rfl] at H; exact H
       clear H
       have H := H1
       clear H1
       replace H := Option.bind_eq_some_iff.mp H
       obtain ⟨t198, A90, H⟩ := H
       replace H : (if t198 = x8_1 then (if x8_1 > 0 then (if 0 ≤ (wrap64 (Int.tdiv (wrap64 (x8_1 - 1)) 2)) then (if (wrap64 (Int.tdiv (wrap64 (x8_1 - 1)) 2)) < (l0_0.length : Int) then ((impl_Ahead.f ((rd_T68 l0_0 x8_1).f0) ((rd_T68 l0_0 x8_1).f1) ((rd_T68 l0_0 (wrap64 (Int.tdiv (wrap64 (x8_1 - 1)) 2))).f0) ((rd_T68 l0_0 (wrap64 (Int.tdiv (wrap64 (x8_1 - 1)) 2))).f1)).bind fun t200 => (if t200 = true then (some false) else (impl_HeapOk.l0 k1 l0_0 (l0_0.length : Int) (wrap64 (x8_1 + 1)) l0_0))) else (none)) else (none)) else (impl_HeapOk.l0 k1 l0_0 (l0_0.length : Int) (wrap64 (x8_1 + 1)) l0_0)) else (some false)) = some r := H
       have A9 := Aside0.mk A90
       clear A90
       by_cases c10 : t198 = x8_1
       ·rw [if_pos c10] at H
        have c10b0 : (t198 == x8_1) = true := beq_iff_eq.mpr c10
        have c10b1 : (t198 != x8_1) = false := bne_eq_false_iff_eq.mpr c10
        clear c10
        by_cases c11 : x8_1 > 0
        ·rw [if_pos c11] at H
         have c11b0 : decide (0 < x8_1) = true := decide_eq_true c11
         clear c11
         obtain ⟨ji12, hji12⟩ : ∃ j_ : Int, (wrap64 (Int.tdiv (wrap64 (x8_1 - 1)) 2)) = j_ := ⟨_, rfl⟩
         replace H : (if 0 ≤ (ji12) then (if (ji12) < (l0_0.length : Int) then ((impl_Ahead.f ((rd_T68 l0_0 x8_1).f0) ((rd_T68 l0_0 x8_1).f1) ((rd_T68 l0_0 (ji12)).f0) ((rd_T68 l0_0 (ji12)).f1)).bind fun t200 => (if t200 = true then (some false) else (impl_HeapOk.l0 k1 l0_0 (l0_0.length : Int) (wrap64 (x8_1 + 1)) l0_0))) else (none)) else (none)) = some r := by first | (rw [hji12] at H; exact H) | (simp only [hji12] at H ⊢; exact H)
         (try rw [hji12] at A7)
         (try rw [hji12] at A9)
         have hji12w : (IntKind.i64.wrap (Int.tdiv (wrap64 (x8_1 - 1)) 2)) = ji12 := (i64_w _).trans hji12
         by_cases c13 : 0 ≤ (ji12)
         ·rw [if_pos c13] at H
          have c13b0 : decide (0 ≤ (ji12)) = true := decide_eq_true c13
          clear c13
          by_cases c14 : (ji12) < (l0_0.length : Int)
          ·rw [if_pos c14] at H
           have c14b0 : decide ((ji12) < (l0_0.length : Int)) = true := decide_eq_true c14
           clear c14
           replace H := Option.bind_eq_some_iff.mp H
           obtain ⟨t200, A150, H⟩ := H
           replace H : (if t200 = true then (some false) else (impl_HeapOk.l0 k1 l0_0 (l0_0.length : Int) (wrap64 (x8_1 + 1)) l0_0)) = some r := H
           have A15 := Aside0.mk A150
           clear A150
           by_cases c16 : t200 = true
           ·subst c16
            have H1 : (some false) = some r := by rw [if_pos rfl] at H; exact H
            clear H
            have H := H1
            clear H1
            obtain rfl := Option.some.inj H
            have p195 : 0 ≤ (x8_1 : Int) := of_decide_eq_true (by first | (with_reducible assumption) | assumption)
            have q195 : x8_1 < (l0_0.length : Int) := of_decide_eq_true (by first | (with_reducible assumption) | assumption)
            obtain ⟨ad195, e195, hx195_0, hx195_1⟩ := at_T68 HR0_0.out x8_1 p195 q195
            cases e195
            replace hx195_0 := (HB.out.cell (World.block_lt_of_cell? w _ hx195_0)).trans hx195_0
            replace hx195_1 := (HB.out.cell (World.block_lt_of_cell? w _ hx195_1)).trans hx195_1
            replace p195 := eq_true p195
            replace q195 := eq_true q195
            try go_wp2_with (first | ((with_reducible refine gate_dst (N := 4) rfl ?_); refine box_event ?hg (N := 4) ?hd (cs := #[.int .i64 0, .int .i64 0]) (t := 68) ?hr ?_; (case hd => rfl); (case hg => rfl); (case hr => first | (go_simp; done) | (go_simp; rfl)); intro gb196 hg w17 hbox hb; have n0_ := bb_ BK194 hb; have n1_ := Aside0.mk (below_step (bf_ HB) hb); have n2_ := Aside0.mk (hbox); have n3_ := gw_ HB hg; have n4_ := gw_ HB hg; have n5_ := nl_ BK194 hg; have n6_ := ng_ BK194 hg; clear BK194; clear HB; have BK194 := n0_; have HB := n1_; have BK196 := n2_; have GW196 := n3_; have GE196 := n4_; have NB194_196 := n5_; have NB196_194 := n6_; clear n0_ n1_ n2_ n3_ n4_ n5_ n6_; clear hb hbox hg; have hnb18 := NB196_194.out; have hnc18 := NB194_196.out; have hcz19_0 := bc_ BK196 0 (.int .i64 0) rfl; have hcz19_1 := bc_ BK196 1 (.int .i64 0) rfl; have hfz19_0 := blk_frozen BK196.out 0; have hfz19_1 := blk_frozen BK196.out 1))
            have n0_ : Aside0 (((w17.setCell ⟨gb196, 0, none⟩ (.int .i64 ((rd_T68 l0_0 x8_1).f0))).setCell ⟨gb196, 1, none⟩ (.int .i64 ((rd_T68 l0_0 x8_1).f1))).heap[gb194]? = some (.cells #[.slice (some ad195) l0_0.length c0_0] 29 (0, 0))) := ⟨by (with_reducible repeat (first | refine blk_drewN ?_ _ | refine blk_drew ?_ | refine blk_alloc ?_ _)); refine blk_far ?_ NB194_196.out _; (with_reducible repeat (first | refine blk_drewN ?_ _ | refine blk_drew ?_ | refine blk_alloc ?_ _)); refine blk_far ?_ NB194_196.out _; exact bk_ BK194⟩
            have n1_ : Aside0 (((w17.setCell ⟨gb196, 0, none⟩ (.int .i64 ((rd_T68 l0_0 x8_1).f0))).setCell ⟨gb196, 1, none⟩ (.int .i64 ((rd_T68 l0_0 x8_1).f1))).heap[gb196]? = some (.cells #[.int .i64 ((rd_T68 l0_0 x8_1).f0), .int .i64 ((rd_T68 l0_0 x8_1).f1)] 68 (0, 0))) := ⟨by (with_reducible repeat (first | refine blk_drewN ?_ _ | refine blk_drew ?_ | refine blk_alloc ?_ _)); refine blk_put (cs := #[.int .i64 ((rd_T68 l0_0 x8_1).f0), .int .i64 0]) ?_ 1 _ rfl; (with_reducible repeat (first | refine blk_drewN ?_ _ | refine blk_drew ?_ | refine blk_alloc ?_ _)); refine blk_put (cs := #[.int .i64 0, .int .i64 0]) ?_ 0 _ rfl; exact bk_ BK196⟩
            have n2_ : Aside0 (Below w.heap.size w ((w17.setCell ⟨gb196, 0, none⟩ (.int .i64 ((rd_T68 l0_0 x8_1).f0))).setCell ⟨gb196, 1, none⟩ (.int .i64 ((rd_T68 l0_0 x8_1).f1)))) := ⟨bf_ HB⟩
            (try clear BK194); (try clear BK196); (try clear HB)
            generalize ((w17.setCell ⟨gb196, 0, none⟩ (.int .i64 ((rd_T68 l0_0 x8_1).f0))).setCell ⟨gb196, 1, none⟩ (.int .i64 ((rd_T68 l0_0 x8_1).f1))) = w20 at n0_ n1_ n2_ ⊢
            have BK194 := n0_; have BK196 := n1_; have HB := n2_; clear n0_ n1_ n2_; have n0_ := Aside0.mk (blk_drew BK194.out); have n1_ := Aside0.mk (blk_drew BK196.out); have n2_ := Aside0.mk (below_drew1 HB.out); clear BK194; clear BK196; clear HB; have BK194 := n0_; have BK196 := n1_; have HB := n2_; clear n0_ n1_ n2_
            have p199 : 0 ≤ ((ji12) : Int) := of_decide_eq_true (by first | (with_reducible assumption) | assumption)
            have q199 : (ji12) < (l0_0.length : Int) := of_decide_eq_true (by first | (with_reducible assumption) | assumption)
            obtain ⟨ad199, e199, hx199_0, hx199_1⟩ := at_T68 HR0_0.out (ji12) p199 q199
            have hw199_1 := hx199_1; have hw199_0 := hx199_0
            obtain rfl : ad195 = ad199 := (by injection e199)
            replace hx199_0 := (HB.out.cell (World.block_lt_of_cell? w _ hx199_0)).trans hx199_0
            replace hx199_1 := (HB.out.cell (World.block_lt_of_cell? w _ hx199_1)).trans hx199_1
            replace p199 := eq_true p199
            replace q199 := eq_true q199
            refine start_ (n := 26) (S := fun w' => w'.cell? ⟨gb196, 0, none⟩ = some (.int .i64 ((rd_T68 l0_0 x8_1).f0)) ∧ w'.cell? ⟨gb196, 1, none⟩ = some (.int .i64 ((rd_T68 l0_0 x8_1).f1)) ∧ w'.cell? ⟨gb194, 0, none⟩ = some (.slice (some ad195) l0_0.length c0_0) ∧ w'.cell? (ad195.add (((ji12)).toNat * 2)) = some (.int .i64 ((rd_T68 l0_0 (ji12)).f0)) ∧ w'.cell? ⟨(ad195.add (((ji12)).toNat * 2)).block, (ad195.add (((ji12)).toNat * 2)).off + 1, none⟩ = some (.int .i64 ((rd_T68 l0_0 (ji12)).f1))) (ds := []) (bs 26 0) (by kernel_rfl) rfl rfl ⟨bt_ BK196 0, bt_ BK196 1, bt_ BK194 0, ((HB.out.cell (World.block_lt_of_cell? w _ hw199_0)).trans hw199_0), ((HB.out.cell (World.block_lt_of_cell? w _ hw199_1)).trans hw199_1)⟩ (fun hHeld => ?_); refine with_tabW impl_HeapOk.tab4 impl_HeapOk.bits4 (fun HT_ HW_ => ?_)
            generalize w20.drew = w21 at BK194 BK196 HB hx199_0 hx199_1 hHeld ⊢
            refine take_ (i := 0) (N := some 13) (v := ?_) (a' := ?_) (bs 26 1) rfl rfl (take_ofW HT_.out HW_.out (by kernel_rfl)) (fun _ _ _ h => h) (Or.inl ⟨by rfl, ?_⟩) hHeld ?_ ?_
            rotate_left
            ·rintro w' ⟨s0, s1, s2, s3, s4⟩
             go_simp
             with_reducible rfl
            rotate_left
            ·simp only [Act.put, List.setIfInBounds_toArray, List.set_cons_zero, List.set_cons_succ, i64_w, i32_w]
             rfl
            refine one_ (i := 1) (N := some 14) (bs 26 2) rfl rfl (one_of HT_.out (by kernel_rfl)) (by decide) (fun K hK => ?_)
            refine goes_ Try.func101 (by kernel_rfl) rfl #[.agg #[.int .i64 ((rd_T68 l0_0 x8_1).f0), .int .i64 ((rd_T68 l0_0 x8_1).f1)]] (by rfl) rfl rfl mt_ ?_
            with_reducible refine (impl_ItemOk.calls ((rd_T68 l0_0 x8_1).f0) ((rd_T68 l0_0 x8_1).f1) true _ A7.out).mono ?_
            rintro e w22 ⟨rfl, hb⟩
            refine ⟨_, rfl, ?_⟩
            have n0_ := bb_ BK194 hb; have n1_ := bb_ BK196 hb; have n2_ := Aside0.mk (below_step (bf_ HB) hb); clear BK194; clear BK196; clear HB; have BK194 := n0_; have BK196 := n1_; have HB := n2_; clear n0_ n1_ n2_; (try clear hb); (try clear hb2); (try clear hk); (try clear hi)
            refine hK.out _ _ ⟨bt_ BK196 0, bt_ BK196 1, bt_ BK194 0, ((HB.out.cell (World.block_lt_of_cell? w _ hw199_0)).trans hw199_0), ((HB.out.cell (World.block_lt_of_cell? w _ hw199_1)).trans hw199_1)⟩ (fun hHeld => ?_)
            clear hK K
            refine norm_ (a' := ?_) ?_ ?_
            rotate_left
            ·show Act.put _ (some 14) _ = _
             simp only [Act.put, List.setIfInBounds_toArray, List.set_cons_zero, List.set_cons_succ, i64_w, i32_w]
             rfl
            refine pure_s (i := 2) (N := some 15) (bs 26 3) (any_of HT_.out (by kernel_rfl)) (h := ?_)
            refine pure_s (i := 3) (N := some 16) (bs 26 4) (any_of HT_.out (by kernel_rfl)) (h := ?_)
            refine pure_s (i := 5) (N := some 18) #[oT,oT,oT,oT,oF,oT,oF,oF,oF,oF,oF,oF,oF,oF,oF,oF,oF,oF,oF,oF,oF,oF,oF,oF,oF,oF] (any_of HT_.out (by kernel_rfl)) (h := ?_)
            refine pure_s (i := 8) (N := some 21) #[oT,oT,oT,oT,oF,oT,oF,oF,oT,oF,oF,oF,oF,oF,oF,oF,oF,oF,oF,oF,oF,oF,oF,oF,oF,oF] (any_of HT_.out (by kernel_rfl)) (h := ?_)
            refine take_ (i := 4) (N := some 17) (v := ?_) (a' := ?_) #[oT,oT,oT,oT,oT,oT,oF,oF,oT,oF,oF,oF,oF,oF,oF,oF,oF,oF,oF,oF,oF,oF,oF,oF,oF,oF] rfl rfl (take_ofW HT_.out HW_.out (by kernel_rfl)) (fun _ _ _ h => h) (Or.inl ⟨by rfl, ?_⟩) hHeld ?_ ?_
            rotate_left
            ·rintro w' ⟨s0, s1, s2, s3, s4⟩
             go_simp
             with_reducible rfl
            rotate_left
            ·simp only [Act.put, List.setIfInBounds_toArray, List.set_cons_zero, List.set_cons_succ, i64_w, i32_w]
             rfl
            refine take_ (i := 6) (N := some 19) (v := ?_) (a' := ?_) #[oT,oT,oT,oT,oT,oT,oT,oF,oT,oF,oF,oF,oF,oF,oF,oF,oF,oF,oF,oF,oF,oF,oF,oF,oF,oF] rfl rfl (take_ofW HT_.out HW_.out (by kernel_rfl)) (fun _ _ _ h => h) (Or.inl ⟨by rfl, ?_⟩) hHeld ?_ ?_
            rotate_left
            ·rintro w' ⟨s0, s1, s2, s3, s4⟩
             go_simp
             with_reducible rfl
            rotate_left
            ·simp only [Act.put, List.setIfInBounds_toArray, List.set_cons_zero, List.set_cons_succ, i64_w, i32_w]
             rfl
            refine one_ (i := 7) (N := some 20) (bs 26 9) rfl rfl (one_of HT_.out (by kernel_rfl)) (by decide) (fun K hK => ?_)
            refine goes_ Try.func95 (by kernel_rfl) rfl #[.agg #[.slice (some ad195) l0_0.length c0_0], .int .i64 ((rd_T68 l0_0 x8_1).f1)] (by rfl) rfl rfl mt_ ?_
            with_reducible refine (impl_Heap_place.calls _ _ l0_0 ((rd_T68 l0_0 x8_1).f1) t198 _ ?side1 ?side2 A9.out).mono ?_
            (case side1 => repeat (first | exact (Kd.C_below HR0_0.out HB.out) | (with_reducible refine Kd.C_alloc ?_ _) | (with_reducible refine Kd.C_drewN ?_ _) | (with_reducible refine Kd.C_drew ?_)))
            (case side2 => exact HC0_0.out)
            rintro e w23 ⟨rfl, hb⟩
            refine ⟨_, rfl, ?_⟩
            have n0_ := bb_ BK194 hb; have n1_ := bb_ BK196 hb; have n2_ := Aside0.mk (below_step (bf_ HB) hb); clear BK194; clear BK196; clear HB; have BK194 := n0_; have BK196 := n1_; have HB := n2_; clear n0_ n1_ n2_; (try clear hb); (try clear hb2); (try clear hk); (try clear hi)
            refine hK.out _ _ ⟨bt_ BK196 0, bt_ BK196 1, bt_ BK194 0, ((HB.out.cell (World.block_lt_of_cell? w _ hw199_0)).trans hw199_0), ((HB.out.cell (World.block_lt_of_cell? w _ hw199_1)).trans hw199_1)⟩ (fun hHeld => ?_)
            clear hK K
            refine norm_ (a' := ?_) ?_ ?_
            rotate_left
            ·show Act.put _ (some 20) _ = _
             simp only [Act.put, List.setIfInBounds_toArray, List.set_cons_zero, List.set_cons_succ, i64_w, i32_w]
             rfl
            refine pure_s (i := 9) (N := some 22) (bs 26 10) (any_of HT_.out (by kernel_rfl)) (h := ?_)
            refine pure_s (i := 10) (N := some 23) (bs 26 11) (any_of HT_.out (by kernel_rfl)) (h := ?_)
            refine pure_s (i := 11) (N := some 24) (bs 26 12) (any_of HT_.out (by kernel_rfl)) (h := ?_)
            refine pure_s (i := 12) (N := some 25) (bs 26 13) (any_of HT_.out (by kernel_rfl)) (h := ?_)
            refine pure_s (i := 13) (N := some 26) (bs 26 14) (any_of HT_.out (by kernel_rfl)) (h := ?_)
            refine pure_s (i := 14) (N := some 27) (bs 26 15) (any_of HT_.out (by kernel_rfl)) (h := ?_)
            refine pure_s (i := 16) (N := some 29) #[oT,oT,oT,oT,oT,oT,oT,oT,oT,oT,oT,oT,oT,oT,oT,oF,oT,oF,oF,oF,oF,oF,oF,oF,oF,oF] (any_of HT_.out (by kernel_rfl)) (h := ?_)
            refine pure_s (i := 18) (N := some 31) #[oT,oT,oT,oT,oT,oT,oT,oT,oT,oT,oT,oT,oT,oT,oT,oF,oT,oF,oT,oF,oF,oF,oF,oF,oF,oF] (any_of HT_.out (by kernel_rfl)) (h := ?_)
            refine pure_s (i := 19) (N := some 32) #[oT,oT,oT,oT,oT,oT,oT,oT,oT,oT,oT,oT,oT,oT,oT,oF,oT,oF,oT,oT,oF,oF,oF,oF,oF,oF] (any_of HT_.out (by kernel_rfl)) (h := ?_)
            refine pure_s (i := 20) (N := some 33) #[oT,oT,oT,oT,oT,oT,oT,oT,oT,oT,oT,oT,oT,oT,oT,oF,oT,oF,oT,oT,oT,oF,oF,oF,oF,oF] (any_of HT_.out (by kernel_rfl)) (h := ?_)
            refine take_ (i := 15) (N := some 28) (v := ?_) (a' := ?_) #[oT,oT,oT,oT,oT,oT,oT,oT,oT,oT,oT,oT,oT,oT,oT,oT,oT,oF,oT,oT,oT,oF,oF,oF,oF,oF] rfl rfl (take_ofW HT_.out HW_.out (by kernel_rfl)) (fun _ _ _ h => h) (Or.inl ⟨by rfl, ?_⟩) hHeld ?_ ?_
            rotate_left
            ·rintro w' ⟨s0, s1, s2, s3, s4⟩
             go_simp
             with_reducible rfl
            rotate_left
            ·simp only [Act.put, List.setIfInBounds_toArray, List.set_cons_zero, List.set_cons_succ, i64_w, i32_w]
             rfl
            refine take_ (i := 17) (N := some 30) (v := ?_) (a' := ?_) (bs 26 21) rfl rfl (take_ofW HT_.out HW_.out (by kernel_rfl)) (fun _ _ _ h => h) (Or.inl ⟨by rfl, ?_⟩) hHeld ?_ ?_
            rotate_left
            ·rintro w' ⟨s0, s1, s2, s3, s4⟩
             go_simp
             with_reducible rfl
            rotate_left
            ·simp only [Act.put, List.setIfInBounds_toArray, List.set_cons_zero, List.set_cons_succ, i64_w, i32_w]
             rfl
            refine pure_s (i := 21) (N := some 34) (bs 26 22) (any_of HT_.out (by kernel_rfl)) (h := ?_)
            refine take_ (i := 22) (N := some 35) (v := ?_) (a' := ?_) (bs 26 23) rfl rfl (take_ofW HT_.out HW_.out (by kernel_rfl)) (fun _ _ _ h => h) (Or.inl ⟨by rfl, ?_⟩) hHeld ?_ ?_
            rotate_left
            ·rintro w' ⟨s0, s1, s2, s3, s4⟩
             go_simp
             with_reducible rfl
            rotate_left
            ·simp only [Act.put, List.setIfInBounds_toArray, List.set_cons_zero, List.set_cons_succ, i64_w, i32_w]
             rfl
            refine one_ (i := 23) (N := some 36) (bs 26 24) rfl rfl (one_of HT_.out (by kernel_rfl)) (by decide) (fun K hK => ?_)
            refine goes_ Try.func68 (by kernel_rfl) rfl #[.agg #[.int .i64 ((rd_T68 l0_0 x8_1).f0), .int .i64 ((rd_T68 l0_0 x8_1).f1)], .agg #[.int .i64 ((rd_T68 l0_0 (ji12)).f0), .int .i64 ((rd_T68 l0_0 (ji12)).f1)]] (by rfl) rfl rfl (by (try simp only [List.map_toArray, List.map_cons, List.map_nil]); first | done | (simp only [hji12]; rfl) | rfl | (simp only [List.length_drop, List.length_take]; rfl)) ?_
            with_reducible refine (impl_Ahead.calls ((rd_T68 l0_0 x8_1).f0) ((rd_T68 l0_0 x8_1).f1) ((rd_T68 l0_0 (ji12)).f0) ((rd_T68 l0_0 (ji12)).f1) true _ A15.out).mono ?_
            rintro e w24 ⟨rfl, hb⟩
            refine ⟨_, rfl, ?_⟩
            have n0_ := bb_ BK194 hb; have n1_ := bb_ BK196 hb; have n2_ := Aside0.mk (below_step (bf_ HB) hb); clear BK194; clear BK196; clear HB; have BK194 := n0_; have BK196 := n1_; have HB := n2_; clear n0_ n1_ n2_; (try clear hb); (try clear hb2); (try clear hk); (try clear hi)
            refine hK.out _ _ ⟨bt_ BK196 0, bt_ BK196 1, bt_ BK194 0, ((HB.out.cell (World.block_lt_of_cell? w _ hw199_0)).trans hw199_0), ((HB.out.cell (World.block_lt_of_cell? w _ hw199_1)).trans hw199_1)⟩ (fun hHeld => ?_)
            clear hK K
            refine norm_ (a' := ?_) ?_ ?_
            rotate_left
            ·show Act.put _ (some 36) _ = _
             simp only [Act.put, List.setIfInBounds_toArray, List.set_cons_zero, List.set_cons_succ, i64_w, i32_w]
             rfl
            refine pure_s (i := 24) (N := some 37) (bs 26 25) (any_of HT_.out (by kernel_rfl)) (h := ?_)
            refine pure_s (i := 25) (N := some 38) (bs 26 26) (any_of HT_.out (by kernel_rfl)) (h := ?_)
            refine done_ (done_of HT_.out (by kernel_rfl)) ?_
            try go_wp2
            go_ret
            exact ⟨by first | rfl | (simp [errW_none, errW_some] <;> rfl) | (simp only [← hji12]; first | rfl | (simp [errW_none, errW_some] <;> rfl)) | (simp [*, errW_none, errW_some] <;> rfl), bf_ HB⟩
           ·replace c16 := Bool.eq_false_iff.mpr c16
            subst c16
            have H1 : (impl_HeapOk.l0 k1 l0_0 (l0_0.length : Int) (wrap64 (x8_1 + 1)) l0_0) = some r := by rw [if_neg (show ¬ (false = true) by decide)] at H; exact H
            clear H
            have H := H1
            clear H1
            have H' := Aside0.mk H
            clear H
            have p195 : 0 ≤ (x8_1 : Int) := of_decide_eq_true (by first | (with_reducible assumption) | assumption)
            have q195 : x8_1 < (l0_0.length : Int) := of_decide_eq_true (by first | (with_reducible assumption) | assumption)
            obtain ⟨ad195, e195, hx195_0, hx195_1⟩ := at_T68 HR0_0.out x8_1 p195 q195
            cases e195
            replace hx195_0 := (HB.out.cell (World.block_lt_of_cell? w _ hx195_0)).trans hx195_0
            replace hx195_1 := (HB.out.cell (World.block_lt_of_cell? w _ hx195_1)).trans hx195_1
            replace p195 := eq_true p195
            replace q195 := eq_true q195
            try go_wp2_with (first | ((with_reducible refine gate_dst (N := 4) rfl ?_); refine box_event ?hg (N := 4) ?hd (cs := #[.int .i64 0, .int .i64 0]) (t := 68) ?hr ?_; (case hd => rfl); (case hg => rfl); (case hr => first | (go_simp; done) | (go_simp; rfl)); intro gb196 hg w25 hbox hb; have n0_ := bb_ BK194 hb; have n1_ := Aside0.mk (below_step (bf_ HB) hb); have n2_ := Aside0.mk (hbox); have n3_ := gw_ HB hg; have n4_ := gw_ HB hg; have n5_ := nl_ BK194 hg; have n6_ := ng_ BK194 hg; clear BK194; clear HB; have BK194 := n0_; have HB := n1_; have BK196 := n2_; have GW196 := n3_; have GE196 := n4_; have NB194_196 := n5_; have NB196_194 := n6_; clear n0_ n1_ n2_ n3_ n4_ n5_ n6_; clear hb hbox hg; have hnb26 := NB196_194.out; have hnc26 := NB194_196.out; have hcz27_0 := bc_ BK196 0 (.int .i64 0) rfl; have hcz27_1 := bc_ BK196 1 (.int .i64 0) rfl; have hfz27_0 := blk_frozen BK196.out 0; have hfz27_1 := blk_frozen BK196.out 1))
            have n0_ : Aside0 (((w25.setCell ⟨gb196, 0, none⟩ (.int .i64 ((rd_T68 l0_0 x8_1).f0))).setCell ⟨gb196, 1, none⟩ (.int .i64 ((rd_T68 l0_0 x8_1).f1))).heap[gb194]? = some (.cells #[.slice (some ad195) l0_0.length c0_0] 29 (0, 0))) := ⟨by (with_reducible repeat (first | refine blk_drewN ?_ _ | refine blk_drew ?_ | refine blk_alloc ?_ _)); refine blk_far ?_ NB194_196.out _; (with_reducible repeat (first | refine blk_drewN ?_ _ | refine blk_drew ?_ | refine blk_alloc ?_ _)); refine blk_far ?_ NB194_196.out _; exact bk_ BK194⟩
            have n1_ : Aside0 (((w25.setCell ⟨gb196, 0, none⟩ (.int .i64 ((rd_T68 l0_0 x8_1).f0))).setCell ⟨gb196, 1, none⟩ (.int .i64 ((rd_T68 l0_0 x8_1).f1))).heap[gb196]? = some (.cells #[.int .i64 ((rd_T68 l0_0 x8_1).f0), .int .i64 ((rd_T68 l0_0 x8_1).f1)] 68 (0, 0))) := ⟨by (with_reducible repeat (first | refine blk_drewN ?_ _ | refine blk_drew ?_ | refine blk_alloc ?_ _)); refine blk_put (cs := #[.int .i64 ((rd_T68 l0_0 x8_1).f0), .int .i64 0]) ?_ 1 _ rfl; (with_reducible repeat (first | refine blk_drewN ?_ _ | refine blk_drew ?_ | refine blk_alloc ?_ _)); refine blk_put (cs := #[.int .i64 0, .int .i64 0]) ?_ 0 _ rfl; exact bk_ BK196⟩
            have n2_ : Aside0 (Below w.heap.size w ((w25.setCell ⟨gb196, 0, none⟩ (.int .i64 ((rd_T68 l0_0 x8_1).f0))).setCell ⟨gb196, 1, none⟩ (.int .i64 ((rd_T68 l0_0 x8_1).f1)))) := ⟨bf_ HB⟩
            (try clear BK194); (try clear BK196); (try clear HB)
            generalize ((w25.setCell ⟨gb196, 0, none⟩ (.int .i64 ((rd_T68 l0_0 x8_1).f0))).setCell ⟨gb196, 1, none⟩ (.int .i64 ((rd_T68 l0_0 x8_1).f1))) = w28 at n0_ n1_ n2_ ⊢
            have BK194 := n0_; have BK196 := n1_; have HB := n2_; clear n0_ n1_ n2_; have n0_ := Aside0.mk (blk_drew BK194.out); have n1_ := Aside0.mk (blk_drew BK196.out); have n2_ := Aside0.mk (below_drew1 HB.out); clear BK194; clear BK196; clear HB; have BK194 := n0_; have BK196 := n1_; have HB := n2_; clear n0_ n1_ n2_
            have p199 : 0 ≤ ((ji12) : Int) := of_decide_eq_true (by first | (with_reducible assumption) | assumption)
            have q199 : (ji12) < (l0_0.length : Int) := of_decide_eq_true (by first | (with_reducible assumption) | assumption)
            obtain ⟨ad199, e199, hx199_0, hx199_1⟩ := at_T68 HR0_0.out (ji12) p199 q199
            have hw199_1 := hx199_1; have hw199_0 := hx199_0
            obtain rfl : ad195 = ad199 := (by injection e199)
            replace hx199_0 := (HB.out.cell (World.block_lt_of_cell? w _ hx199_0)).trans hx199_0
            replace hx199_1 := (HB.out.cell (World.block_lt_of_cell? w _ hx199_1)).trans hx199_1
            replace p199 := eq_true p199
            replace q199 := eq_true q199
            refine start_ (n := 26) (S := fun w' => w'.cell? ⟨gb196, 0, none⟩ = some (.int .i64 ((rd_T68 l0_0 x8_1).f0)) ∧ w'.cell? ⟨gb196, 1, none⟩ = some (.int .i64 ((rd_T68 l0_0 x8_1).f1)) ∧ w'.cell? ⟨gb194, 0, none⟩ = some (.slice (some ad195) l0_0.length c0_0) ∧ w'.cell? (ad195.add (((ji12)).toNat * 2)) = some (.int .i64 ((rd_T68 l0_0 (ji12)).f0)) ∧ w'.cell? ⟨(ad195.add (((ji12)).toNat * 2)).block, (ad195.add (((ji12)).toNat * 2)).off + 1, none⟩ = some (.int .i64 ((rd_T68 l0_0 (ji12)).f1))) (ds := []) (bs 26 0) (by kernel_rfl) rfl rfl ⟨bt_ BK196 0, bt_ BK196 1, bt_ BK194 0, ((HB.out.cell (World.block_lt_of_cell? w _ hw199_0)).trans hw199_0), ((HB.out.cell (World.block_lt_of_cell? w _ hw199_1)).trans hw199_1)⟩ (fun hHeld => ?_); refine with_tabW impl_HeapOk.tab4 impl_HeapOk.bits4 (fun HT_ HW_ => ?_)
            generalize w28.drew = w29 at BK194 BK196 HB hx199_0 hx199_1 hHeld ⊢
            refine take_ (i := 0) (N := some 13) (v := ?_) (a' := ?_) (bs 26 1) rfl rfl (take_ofW HT_.out HW_.out (by kernel_rfl)) (fun _ _ _ h => h) (Or.inl ⟨by rfl, ?_⟩) hHeld ?_ ?_
            rotate_left
            ·rintro w' ⟨s0, s1, s2, s3, s4⟩
             go_simp
             with_reducible rfl
            rotate_left
            ·simp only [Act.put, List.setIfInBounds_toArray, List.set_cons_zero, List.set_cons_succ, i64_w, i32_w]
             rfl
            refine one_ (i := 1) (N := some 14) (bs 26 2) rfl rfl (one_of HT_.out (by kernel_rfl)) (by decide) (fun K hK => ?_)
            refine goes_ Try.func101 (by kernel_rfl) rfl #[.agg #[.int .i64 ((rd_T68 l0_0 x8_1).f0), .int .i64 ((rd_T68 l0_0 x8_1).f1)]] (by rfl) rfl rfl mt_ ?_
            with_reducible refine (impl_ItemOk.calls ((rd_T68 l0_0 x8_1).f0) ((rd_T68 l0_0 x8_1).f1) true _ A7.out).mono ?_
            rintro e w30 ⟨rfl, hb⟩
            refine ⟨_, rfl, ?_⟩
            have n0_ := bb_ BK194 hb; have n1_ := bb_ BK196 hb; have n2_ := Aside0.mk (below_step (bf_ HB) hb); clear BK194; clear BK196; clear HB; have BK194 := n0_; have BK196 := n1_; have HB := n2_; clear n0_ n1_ n2_; (try clear hb); (try clear hb2); (try clear hk); (try clear hi)
            refine hK.out _ _ ⟨bt_ BK196 0, bt_ BK196 1, bt_ BK194 0, ((HB.out.cell (World.block_lt_of_cell? w _ hw199_0)).trans hw199_0), ((HB.out.cell (World.block_lt_of_cell? w _ hw199_1)).trans hw199_1)⟩ (fun hHeld => ?_)
            clear hK K
            refine norm_ (a' := ?_) ?_ ?_
            rotate_left
            ·show Act.put _ (some 14) _ = _
             simp only [Act.put, List.setIfInBounds_toArray, List.set_cons_zero, List.set_cons_succ, i64_w, i32_w]
             rfl
            refine pure_s (i := 2) (N := some 15) (bs 26 3) (any_of HT_.out (by kernel_rfl)) (h := ?_)
            refine pure_s (i := 3) (N := some 16) (bs 26 4) (any_of HT_.out (by kernel_rfl)) (h := ?_)
            refine pure_s (i := 5) (N := some 18) #[oT,oT,oT,oT,oF,oT,oF,oF,oF,oF,oF,oF,oF,oF,oF,oF,oF,oF,oF,oF,oF,oF,oF,oF,oF,oF] (any_of HT_.out (by kernel_rfl)) (h := ?_)
            refine pure_s (i := 8) (N := some 21) #[oT,oT,oT,oT,oF,oT,oF,oF,oT,oF,oF,oF,oF,oF,oF,oF,oF,oF,oF,oF,oF,oF,oF,oF,oF,oF] (any_of HT_.out (by kernel_rfl)) (h := ?_)
            refine take_ (i := 4) (N := some 17) (v := ?_) (a' := ?_) #[oT,oT,oT,oT,oT,oT,oF,oF,oT,oF,oF,oF,oF,oF,oF,oF,oF,oF,oF,oF,oF,oF,oF,oF,oF,oF] rfl rfl (take_ofW HT_.out HW_.out (by kernel_rfl)) (fun _ _ _ h => h) (Or.inl ⟨by rfl, ?_⟩) hHeld ?_ ?_
            rotate_left
            ·rintro w' ⟨s0, s1, s2, s3, s4⟩
             go_simp
             with_reducible rfl
            rotate_left
            ·simp only [Act.put, List.setIfInBounds_toArray, List.set_cons_zero, List.set_cons_succ, i64_w, i32_w]
             rfl
            refine take_ (i := 6) (N := some 19) (v := ?_) (a' := ?_) #[oT,oT,oT,oT,oT,oT,oT,oF,oT,oF,oF,oF,oF,oF,oF,oF,oF,oF,oF,oF,oF,oF,oF,oF,oF,oF] rfl rfl (take_ofW HT_.out HW_.out (by kernel_rfl)) (fun _ _ _ h => h) (Or.inl ⟨by rfl, ?_⟩) hHeld ?_ ?_
            rotate_left
            ·rintro w' ⟨s0, s1, s2, s3, s4⟩
             go_simp
             with_reducible rfl
            rotate_left
            ·simp only [Act.put, List.setIfInBounds_toArray, List.set_cons_zero, List.set_cons_succ, i64_w, i32_w]
             rfl
            refine one_ (i := 7) (N := some 20) (bs 26 9) rfl rfl (one_of HT_.out (by kernel_rfl)) (by decide) (fun K hK => ?_)
            refine goes_ Try.func95 (by kernel_rfl) rfl #[.agg #[.slice (some ad195) l0_0.length c0_0], .int .i64 ((rd_T68 l0_0 x8_1).f1)] (by rfl) rfl rfl mt_ ?_
            with_reducible refine (impl_Heap_place.calls _ _ l0_0 ((rd_T68 l0_0 x8_1).f1) t198 _ ?side1 ?side2 A9.out).mono ?_
            (case side1 => repeat (first | exact (Kd.C_below HR0_0.out HB.out) | (with_reducible refine Kd.C_alloc ?_ _) | (with_reducible refine Kd.C_drewN ?_ _) | (with_reducible refine Kd.C_drew ?_)))
            (case side2 => exact HC0_0.out)
            rintro e w31 ⟨rfl, hb⟩
            refine ⟨_, rfl, ?_⟩
            have n0_ := bb_ BK194 hb; have n1_ := bb_ BK196 hb; have n2_ := Aside0.mk (below_step (bf_ HB) hb); clear BK194; clear BK196; clear HB; have BK194 := n0_; have BK196 := n1_; have HB := n2_; clear n0_ n1_ n2_; (try clear hb); (try clear hb2); (try clear hk); (try clear hi)
            refine hK.out _ _ ⟨bt_ BK196 0, bt_ BK196 1, bt_ BK194 0, ((HB.out.cell (World.block_lt_of_cell? w _ hw199_0)).trans hw199_0), ((HB.out.cell (World.block_lt_of_cell? w _ hw199_1)).trans hw199_1)⟩ (fun hHeld => ?_)
            clear hK K
            refine norm_ (a' := ?_) ?_ ?_
            rotate_left
            ·show Act.put _ (some 20) _ = _
             simp only [Act.put, List.setIfInBounds_toArray, List.set_cons_zero, List.set_cons_succ, i64_w, i32_w]
             rfl
            refine pure_s (i := 9) (N := some 22) (bs 26 10) (any_of HT_.out (by kernel_rfl)) (h := ?_)
            refine pure_s (i := 10) (N := some 23) (bs 26 11) (any_of HT_.out (by kernel_rfl)) (h := ?_)
            refine pure_s (i := 11) (N := some 24) (bs 26 12) (any_of HT_.out (by kernel_rfl)) (h := ?_)
            refine pure_s (i := 12) (N := some 25) (bs 26 13) (any_of HT_.out (by kernel_rfl)) (h := ?_)
            refine pure_s (i := 13) (N := some 26) (bs 26 14) (any_of HT_.out (by kernel_rfl)) (h := ?_)
            refine pure_s (i := 14) (N := some 27) (bs 26 15) (any_of HT_.out (by kernel_rfl)) (h := ?_)
            refine pure_s (i := 16) (N := some 29) #[oT,oT,oT,oT,oT,oT,oT,oT,oT,oT,oT,oT,oT,oT,oT,oF,oT,oF,oF,oF,oF,oF,oF,oF,oF,oF] (any_of HT_.out (by kernel_rfl)) (h := ?_)
            refine pure_s (i := 18) (N := some 31) #[oT,oT,oT,oT,oT,oT,oT,oT,oT,oT,oT,oT,oT,oT,oT,oF,oT,oF,oT,oF,oF,oF,oF,oF,oF,oF] (any_of HT_.out (by kernel_rfl)) (h := ?_)
            refine pure_s (i := 19) (N := some 32) #[oT,oT,oT,oT,oT,oT,oT,oT,oT,oT,oT,oT,oT,oT,oT,oF,oT,oF,oT,oT,oF,oF,oF,oF,oF,oF] (any_of HT_.out (by kernel_rfl)) (h := ?_)
            refine pure_s (i := 20) (N := some 33) #[oT,oT,oT,oT,oT,oT,oT,oT,oT,oT,oT,oT,oT,oT,oT,oF,oT,oF,oT,oT,oT,oF,oF,oF,oF,oF] (any_of HT_.out (by kernel_rfl)) (h := ?_)
            refine take_ (i := 15) (N := some 28) (v := ?_) (a' := ?_) #[oT,oT,oT,oT,oT,oT,oT,oT,oT,oT,oT,oT,oT,oT,oT,oT,oT,oF,oT,oT,oT,oF,oF,oF,oF,oF] rfl rfl (take_ofW HT_.out HW_.out (by kernel_rfl)) (fun _ _ _ h => h) (Or.inl ⟨by rfl, ?_⟩) hHeld ?_ ?_
            rotate_left
            ·rintro w' ⟨s0, s1, s2, s3, s4⟩
             go_simp
             with_reducible rfl
            rotate_left
            ·simp only [Act.put, List.setIfInBounds_toArray, List.set_cons_zero, List.set_cons_succ, i64_w, i32_w]
             rfl
            refine take_ (i := 17) (N := some 30) (v := ?_) (a' := ?_) (bs 26 21) rfl rfl (take_ofW HT_.out HW_.out (by kernel_rfl)) (fun _ _ _ h => h) (Or.inl ⟨by rfl, ?_⟩) hHeld ?_ ?_
            rotate_left
            ·rintro w' ⟨s0, s1, s2, s3, s4⟩
             go_simp
             with_reducible rfl
            rotate_left
            ·simp only [Act.put, List.setIfInBounds_toArray, List.set_cons_zero, List.set_cons_succ, i64_w, i32_w]
             rfl
            refine pure_s (i := 21) (N := some 34) (bs 26 22) (any_of HT_.out (by kernel_rfl)) (h := ?_)
            refine take_ (i := 22) (N := some 35) (v := ?_) (a' := ?_) (bs 26 23) rfl rfl (take_ofW HT_.out HW_.out (by kernel_rfl)) (fun _ _ _ h => h) (Or.inl ⟨by rfl, ?_⟩) hHeld ?_ ?_
            rotate_left
            ·rintro w' ⟨s0, s1, s2, s3, s4⟩
             go_simp
             with_reducible rfl
            rotate_left
            ·simp only [Act.put, List.setIfInBounds_toArray, List.set_cons_zero, List.set_cons_succ, i64_w, i32_w]
             rfl
            refine one_ (i := 23) (N := some 36) (bs 26 24) rfl rfl (one_of HT_.out (by kernel_rfl)) (by decide) (fun K hK => ?_)
            refine goes_ Try.func68 (by kernel_rfl) rfl #[.agg #[.int .i64 ((rd_T68 l0_0 x8_1).f0), .int .i64 ((rd_T68 l0_0 x8_1).f1)], .agg #[.int .i64 ((rd_T68 l0_0 (ji12)).f0), .int .i64 ((rd_T68 l0_0 (ji12)).f1)]] (by rfl) rfl rfl (by (try simp only [List.map_toArray, List.map_cons, List.map_nil]); first | done | (simp only [hji12]; rfl) | rfl | (simp only [List.length_drop, List.length_take]; rfl)) ?_
            with_reducible refine (impl_Ahead.calls ((rd_T68 l0_0 x8_1).f0) ((rd_T68 l0_0 x8_1).f1) ((rd_T68 l0_0 (ji12)).f0) ((rd_T68 l0_0 (ji12)).f1) false _ A15.out).mono ?_
            rintro e w32 ⟨rfl, hb⟩
            refine ⟨_, rfl, ?_⟩
            have n0_ := bb_ BK194 hb; have n1_ := bb_ BK196 hb; have n2_ := Aside0.mk (below_step (bf_ HB) hb); clear BK194; clear BK196; clear HB; have BK194 := n0_; have BK196 := n1_; have HB := n2_; clear n0_ n1_ n2_; (try clear hb); (try clear hb2); (try clear hk); (try clear hi)
            refine hK.out _ _ ⟨bt_ BK196 0, bt_ BK196 1, bt_ BK194 0, ((HB.out.cell (World.block_lt_of_cell? w _ hw199_0)).trans hw199_0), ((HB.out.cell (World.block_lt_of_cell? w _ hw199_1)).trans hw199_1)⟩ (fun hHeld => ?_)
            clear hK K
            refine norm_ (a' := ?_) ?_ ?_
            rotate_left
            ·show Act.put _ (some 36) _ = _
             simp only [Act.put, List.setIfInBounds_toArray, List.set_cons_zero, List.set_cons_succ, i64_w, i32_w]
             rfl
            refine pure_s (i := 24) (N := some 37) (bs 26 25) (any_of HT_.out (by kernel_rfl)) (h := ?_)
            refine pure_s (i := 25) (N := some 38) (bs 26 26) (any_of HT_.out (by kernel_rfl)) (h := ?_)
            refine done_ (done_of HT_.out (by kernel_rfl)) ?_
            try go_wp2
            go_roundg k1
            case measure => have := HK1.out; omega
            case rel => exact ⟨(wrap64 (x8_1 + 1)), (by first | rfl | (simp; done) | (simp [*]; done)), H', ⟨by have := HK1.out; omega⟩, ⟨bk_ BK194⟩, ⟨bf_ HB⟩⟩
          ·rw [if_neg c14] at H
           exact absurd H (by simp)
         ·rw [if_neg c13] at H
          exact absurd H (by simp)
        ·rw [if_neg c11] at H
         have c11b0 : decide (0 < x8_1) = false := decide_eq_false c11
         clear c11
         have H' := Aside0.mk H
         clear H
         have p195 : 0 ≤ (x8_1 : Int) := of_decide_eq_true (by first | (with_reducible assumption) | assumption)
         have q195 : x8_1 < (l0_0.length : Int) := of_decide_eq_true (by first | (with_reducible assumption) | assumption)
         obtain ⟨ad195, e195, hx195_0, hx195_1⟩ := at_T68 HR0_0.out x8_1 p195 q195
         cases e195
         replace hx195_0 := (HB.out.cell (World.block_lt_of_cell? w _ hx195_0)).trans hx195_0
         replace hx195_1 := (HB.out.cell (World.block_lt_of_cell? w _ hx195_1)).trans hx195_1
         replace p195 := eq_true p195
         replace q195 := eq_true q195
         try go_wp2_with (first | ((with_reducible refine gate_dst (N := 4) rfl ?_); refine box_event ?hg (N := 4) ?hd (cs := #[.int .i64 0, .int .i64 0]) (t := 68) ?hr ?_; (case hd => rfl); (case hg => rfl); (case hr => first | (go_simp; done) | (go_simp; rfl)); intro gb196 hg w33 hbox hb; have n0_ := bb_ BK194 hb; have n1_ := Aside0.mk (below_step (bf_ HB) hb); have n2_ := Aside0.mk (hbox); have n3_ := gw_ HB hg; have n4_ := gw_ HB hg; have n5_ := nl_ BK194 hg; have n6_ := ng_ BK194 hg; clear BK194; clear HB; have BK194 := n0_; have HB := n1_; have BK196 := n2_; have GW196 := n3_; have GE196 := n4_; have NB194_196 := n5_; have NB196_194 := n6_; clear n0_ n1_ n2_ n3_ n4_ n5_ n6_; clear hb hbox hg; have hnb34 := NB196_194.out; have hnc34 := NB194_196.out; have hcz35_0 := bc_ BK196 0 (.int .i64 0) rfl; have hcz35_1 := bc_ BK196 1 (.int .i64 0) rfl; have hfz35_0 := blk_frozen BK196.out 0; have hfz35_1 := blk_frozen BK196.out 1))
         have n0_ : Aside0 (((w33.setCell ⟨gb196, 0, none⟩ (.int .i64 ((rd_T68 l0_0 x8_1).f0))).setCell ⟨gb196, 1, none⟩ (.int .i64 ((rd_T68 l0_0 x8_1).f1))).heap[gb194]? = some (.cells #[.slice (some ad195) l0_0.length c0_0] 29 (0, 0))) := ⟨by (with_reducible repeat (first | refine blk_drewN ?_ _ | refine blk_drew ?_ | refine blk_alloc ?_ _)); refine blk_far ?_ NB194_196.out _; (with_reducible repeat (first | refine blk_drewN ?_ _ | refine blk_drew ?_ | refine blk_alloc ?_ _)); refine blk_far ?_ NB194_196.out _; exact bk_ BK194⟩
         have n1_ : Aside0 (((w33.setCell ⟨gb196, 0, none⟩ (.int .i64 ((rd_T68 l0_0 x8_1).f0))).setCell ⟨gb196, 1, none⟩ (.int .i64 ((rd_T68 l0_0 x8_1).f1))).heap[gb196]? = some (.cells #[.int .i64 ((rd_T68 l0_0 x8_1).f0), .int .i64 ((rd_T68 l0_0 x8_1).f1)] 68 (0, 0))) := ⟨by (with_reducible repeat (first | refine blk_drewN ?_ _ | refine blk_drew ?_ | refine blk_alloc ?_ _)); refine blk_put (cs := #[.int .i64 ((rd_T68 l0_0 x8_1).f0), .int .i64 0]) ?_ 1 _ rfl; (with_reducible repeat (first | refine blk_drewN ?_ _ | refine blk_drew ?_ | refine blk_alloc ?_ _)); refine blk_put (cs := #[.int .i64 0, .int .i64 0]) ?_ 0 _ rfl; exact bk_ BK196⟩
         have n2_ : Aside0 (Below w.heap.size w ((w33.setCell ⟨gb196, 0, none⟩ (.int .i64 ((rd_T68 l0_0 x8_1).f0))).setCell ⟨gb196, 1, none⟩ (.int .i64 ((rd_T68 l0_0 x8_1).f1)))) := ⟨bf_ HB⟩
         (try clear BK194); (try clear BK196); (try clear HB)
         generalize ((w33.setCell ⟨gb196, 0, none⟩ (.int .i64 ((rd_T68 l0_0 x8_1).f0))).setCell ⟨gb196, 1, none⟩ (.int .i64 ((rd_T68 l0_0 x8_1).f1))) = w36 at n0_ n1_ n2_ ⊢
         have BK194 := n0_; have BK196 := n1_; have HB := n2_; clear n0_ n1_ n2_; have n0_ := Aside0.mk (blk_drew BK194.out); have n1_ := Aside0.mk (blk_drew BK196.out); have n2_ := Aside0.mk (below_drew1 HB.out); clear BK194; clear BK196; clear HB; have BK194 := n0_; have BK196 := n1_; have HB := n2_; clear n0_ n1_ n2_
         refine start_ (n := 26) (S := fun w' => w'.cell? ⟨gb196, 0, none⟩ = some (.int .i64 ((rd_T68 l0_0 x8_1).f0)) ∧ w'.cell? ⟨gb196, 1, none⟩ = some (.int .i64 ((rd_T68 l0_0 x8_1).f1)) ∧ w'.cell? ⟨gb194, 0, none⟩ = some (.slice (some ad195) l0_0.length c0_0)) (ds := []) (bs 26 0) (by kernel_rfl) rfl rfl ⟨bt_ BK196 0, bt_ BK196 1, bt_ BK194 0⟩ (fun hHeld => ?_); refine with_tabW impl_HeapOk.tab4 impl_HeapOk.bits4 (fun HT_ HW_ => ?_)
         generalize w36.drew = w37 at BK194 BK196 HB hHeld ⊢
         refine take_ (i := 0) (N := some 13) (v := ?_) (a' := ?_) (bs 26 1) rfl rfl (take_ofW HT_.out HW_.out (by kernel_rfl)) (fun _ _ _ h => h) (Or.inl ⟨by rfl, ?_⟩) hHeld ?_ ?_
         rotate_left
         ·rintro w' ⟨s0, s1, s2⟩
          go_simp
          with_reducible rfl
         rotate_left
         ·simp only [Act.put, List.setIfInBounds_toArray, List.set_cons_zero, List.set_cons_succ, i64_w, i32_w]
          rfl
         refine one_ (i := 1) (N := some 14) (bs 26 2) rfl rfl (one_of HT_.out (by kernel_rfl)) (by decide) (fun K hK => ?_)
         refine goes_ Try.func101 (by kernel_rfl) rfl #[.agg #[.int .i64 ((rd_T68 l0_0 x8_1).f0), .int .i64 ((rd_T68 l0_0 x8_1).f1)]] (by rfl) rfl rfl mt_ ?_
         with_reducible refine (impl_ItemOk.calls ((rd_T68 l0_0 x8_1).f0) ((rd_T68 l0_0 x8_1).f1) true _ A7.out).mono ?_
         rintro e w38 ⟨rfl, hb⟩
         refine ⟨_, rfl, ?_⟩
         have n0_ := bb_ BK194 hb; have n1_ := bb_ BK196 hb; have n2_ := Aside0.mk (below_step (bf_ HB) hb); clear BK194; clear BK196; clear HB; have BK194 := n0_; have BK196 := n1_; have HB := n2_; clear n0_ n1_ n2_; (try clear hb); (try clear hb2); (try clear hk); (try clear hi)
         refine hK.out _ _ ⟨bt_ BK196 0, bt_ BK196 1, bt_ BK194 0⟩ (fun hHeld => ?_)
         clear hK K
         refine norm_ (a' := ?_) ?_ ?_
         rotate_left
         ·show Act.put _ (some 14) _ = _
          simp only [Act.put, List.setIfInBounds_toArray, List.set_cons_zero, List.set_cons_succ, i64_w, i32_w]
          rfl
         refine pure_s (i := 2) (N := some 15) (bs 26 3) (any_of HT_.out (by kernel_rfl)) (h := ?_)
         refine pure_s (i := 3) (N := some 16) (bs 26 4) (any_of HT_.out (by kernel_rfl)) (h := ?_)
         refine pure_s (i := 5) (N := some 18) #[oT,oT,oT,oT,oF,oT,oF,oF,oF,oF,oF,oF,oF,oF,oF,oF,oF,oF,oF,oF,oF,oF,oF,oF,oF,oF] (any_of HT_.out (by kernel_rfl)) (h := ?_)
         refine pure_s (i := 8) (N := some 21) #[oT,oT,oT,oT,oF,oT,oF,oF,oT,oF,oF,oF,oF,oF,oF,oF,oF,oF,oF,oF,oF,oF,oF,oF,oF,oF] (any_of HT_.out (by kernel_rfl)) (h := ?_)
         refine take_ (i := 4) (N := some 17) (v := ?_) (a' := ?_) #[oT,oT,oT,oT,oT,oT,oF,oF,oT,oF,oF,oF,oF,oF,oF,oF,oF,oF,oF,oF,oF,oF,oF,oF,oF,oF] rfl rfl (take_ofW HT_.out HW_.out (by kernel_rfl)) (fun _ _ _ h => h) (Or.inl ⟨by rfl, ?_⟩) hHeld ?_ ?_
         rotate_left
         ·rintro w' ⟨s0, s1, s2⟩
          go_simp
          with_reducible rfl
         rotate_left
         ·simp only [Act.put, List.setIfInBounds_toArray, List.set_cons_zero, List.set_cons_succ, i64_w, i32_w]
          rfl
         refine take_ (i := 6) (N := some 19) (v := ?_) (a' := ?_) #[oT,oT,oT,oT,oT,oT,oT,oF,oT,oF,oF,oF,oF,oF,oF,oF,oF,oF,oF,oF,oF,oF,oF,oF,oF,oF] rfl rfl (take_ofW HT_.out HW_.out (by kernel_rfl)) (fun _ _ _ h => h) (Or.inl ⟨by rfl, ?_⟩) hHeld ?_ ?_
         rotate_left
         ·rintro w' ⟨s0, s1, s2⟩
          go_simp
          with_reducible rfl
         rotate_left
         ·simp only [Act.put, List.setIfInBounds_toArray, List.set_cons_zero, List.set_cons_succ, i64_w, i32_w]
          rfl
         refine one_ (i := 7) (N := some 20) (bs 26 9) rfl rfl (one_of HT_.out (by kernel_rfl)) (by decide) (fun K hK => ?_)
         refine goes_ Try.func95 (by kernel_rfl) rfl #[.agg #[.slice (some ad195) l0_0.length c0_0], .int .i64 ((rd_T68 l0_0 x8_1).f1)] (by rfl) rfl rfl mt_ ?_
         with_reducible refine (impl_Heap_place.calls _ _ l0_0 ((rd_T68 l0_0 x8_1).f1) t198 _ ?side1 ?side2 A9.out).mono ?_
         (case side1 => repeat (first | exact (Kd.C_below HR0_0.out HB.out) | (with_reducible refine Kd.C_alloc ?_ _) | (with_reducible refine Kd.C_drewN ?_ _) | (with_reducible refine Kd.C_drew ?_)))
         (case side2 => exact HC0_0.out)
         rintro e w39 ⟨rfl, hb⟩
         refine ⟨_, rfl, ?_⟩
         have n0_ := bb_ BK194 hb; have n1_ := bb_ BK196 hb; have n2_ := Aside0.mk (below_step (bf_ HB) hb); clear BK194; clear BK196; clear HB; have BK194 := n0_; have BK196 := n1_; have HB := n2_; clear n0_ n1_ n2_; (try clear hb); (try clear hb2); (try clear hk); (try clear hi)
         refine hK.out _ _ ⟨bt_ BK196 0, bt_ BK196 1, bt_ BK194 0⟩ (fun hHeld => ?_)
         clear hK K
         refine norm_ (a' := ?_) ?_ ?_
         rotate_left
         ·show Act.put _ (some 20) _ = _
          simp only [Act.put, List.setIfInBounds_toArray, List.set_cons_zero, List.set_cons_succ, i64_w, i32_w]
          rfl
         refine pure_s (i := 9) (N := some 22) (bs 26 10) (any_of HT_.out (by kernel_rfl)) (h := ?_)
         refine pure_s (i := 10) (N := some 23) (bs 26 11) (any_of HT_.out (by kernel_rfl)) (h := ?_)
         refine pure_s (i := 11) (N := some 24) (bs 26 12) (any_of HT_.out (by kernel_rfl)) (h := ?_)
         refine pure_s (i := 12) (N := some 25) (bs 26 13) (any_of HT_.out (by kernel_rfl)) (h := ?_)
         refine pure_s (i := 13) (N := some 26) (bs 26 14) (any_of HT_.out (by kernel_rfl)) (h := ?_)
         refine pure_s (i := 14) (N := some 27) (bs 26 15) (any_of HT_.out (by kernel_rfl)) (h := ?_)
         refine pure_u (i := 15) (N := some 28) (bs 26 16) (any_of HT_.out (by kernel_rfl)) (h := ?_)
         refine pure_u (i := 16) (N := some 29) (bs 26 17) (any_of HT_.out (by kernel_rfl)) (h := ?_)
         refine pure_u (i := 17) (N := some 30) (bs 26 18) (any_of HT_.out (by kernel_rfl)) (h := ?_)
         refine pure_u (i := 18) (N := some 31) (bs 26 19) (any_of HT_.out (by kernel_rfl)) (h := ?_)
         refine pure_u (i := 19) (N := some 32) (bs 26 20) (any_of HT_.out (by kernel_rfl)) (h := ?_)
         refine pure_u (i := 20) (N := some 33) (bs 26 21) (any_of HT_.out (by kernel_rfl)) (h := ?_)
         refine pure_u (i := 21) (N := some 34) (bs 26 22) (any_of HT_.out (by kernel_rfl)) (h := ?_)
         refine pure_u (i := 22) (N := some 35) (bs 26 23) (any_of HT_.out (by kernel_rfl)) (h := ?_)
         refine pure_u (i := 23) (N := some 36) (bs 26 24) (any_of HT_.out (by kernel_rfl)) (h := ?_)
         refine pure_s (i := 24) (N := some 37) (bs 26 25) (any_of HT_.out (by kernel_rfl)) (h := ?_)
         refine pure_s (i := 25) (N := some 38) (bs 26 26) (any_of HT_.out (by kernel_rfl)) (h := ?_)
         refine done_ (done_of HT_.out (by kernel_rfl)) ?_
         try go_wp2
         go_roundg k1
         case measure => have := HK1.out; omega
         case rel => exact ⟨(wrap64 (x8_1 + 1)), (by first | rfl | (simp; done) | (simp [*]; done)), H', ⟨by have := HK1.out; omega⟩, ⟨bk_ BK194⟩, ⟨bf_ HB⟩⟩
       ·rw [if_neg c10] at H
        have c10b0 : (t198 == x8_1) = false := beq_eq_false_iff_ne.mpr c10
        have c10b1 : (t198 != x8_1) = true := bne_iff_ne.mpr c10
        obtain rfl := Option.some.inj H
        have p195 : 0 ≤ (x8_1 : Int) := of_decide_eq_true (by first | (with_reducible assumption) | assumption)
        have q195 : x8_1 < (l0_0.length : Int) := of_decide_eq_true (by first | (with_reducible assumption) | assumption)
        obtain ⟨ad195, e195, hx195_0, hx195_1⟩ := at_T68 HR0_0.out x8_1 p195 q195
        cases e195
        replace hx195_0 := (HB.out.cell (World.block_lt_of_cell? w _ hx195_0)).trans hx195_0
        replace hx195_1 := (HB.out.cell (World.block_lt_of_cell? w _ hx195_1)).trans hx195_1
        replace p195 := eq_true p195
        replace q195 := eq_true q195
        try go_wp2_with (first | ((with_reducible refine gate_dst (N := 4) rfl ?_); refine box_event ?hg (N := 4) ?hd (cs := #[.int .i64 0, .int .i64 0]) (t := 68) ?hr ?_; (case hd => rfl); (case hg => rfl); (case hr => first | (go_simp; done) | (go_simp; rfl)); intro gb196 hg w40 hbox hb; have n0_ := bb_ BK194 hb; have n1_ := Aside0.mk (below_step (bf_ HB) hb); have n2_ := Aside0.mk (hbox); have n3_ := gw_ HB hg; have n4_ := gw_ HB hg; have n5_ := nl_ BK194 hg; have n6_ := ng_ BK194 hg; clear BK194; clear HB; have BK194 := n0_; have HB := n1_; have BK196 := n2_; have GW196 := n3_; have GE196 := n4_; have NB194_196 := n5_; have NB196_194 := n6_; clear n0_ n1_ n2_ n3_ n4_ n5_ n6_; clear hb hbox hg; have hnb41 := NB196_194.out; have hnc41 := NB194_196.out; have hcz42_0 := bc_ BK196 0 (.int .i64 0) rfl; have hcz42_1 := bc_ BK196 1 (.int .i64 0) rfl; have hfz42_0 := blk_frozen BK196.out 0; have hfz42_1 := blk_frozen BK196.out 1))
        have n0_ : Aside0 (((w40.setCell ⟨gb196, 0, none⟩ (.int .i64 ((rd_T68 l0_0 x8_1).f0))).setCell ⟨gb196, 1, none⟩ (.int .i64 ((rd_T68 l0_0 x8_1).f1))).heap[gb194]? = some (.cells #[.slice (some ad195) l0_0.length c0_0] 29 (0, 0))) := ⟨by (with_reducible repeat (first | refine blk_drewN ?_ _ | refine blk_drew ?_ | refine blk_alloc ?_ _)); refine blk_far ?_ NB194_196.out _; (with_reducible repeat (first | refine blk_drewN ?_ _ | refine blk_drew ?_ | refine blk_alloc ?_ _)); refine blk_far ?_ NB194_196.out _; exact bk_ BK194⟩
        have n1_ : Aside0 (((w40.setCell ⟨gb196, 0, none⟩ (.int .i64 ((rd_T68 l0_0 x8_1).f0))).setCell ⟨gb196, 1, none⟩ (.int .i64 ((rd_T68 l0_0 x8_1).f1))).heap[gb196]? = some (.cells #[.int .i64 ((rd_T68 l0_0 x8_1).f0), .int .i64 ((rd_T68 l0_0 x8_1).f1)] 68 (0, 0))) := ⟨by (with_reducible repeat (first | refine blk_drewN ?_ _ | refine blk_drew ?_ | refine blk_alloc ?_ _)); refine blk_put (cs := #[.int .i64 ((rd_T68 l0_0 x8_1).f0), .int .i64 0]) ?_ 1 _ rfl; (with_reducible repeat (first | refine blk_drewN ?_ _ | refine blk_drew ?_ | refine blk_alloc ?_ _)); refine blk_put (cs := #[.int .i64 0, .int .i64 0]) ?_ 0 _ rfl; exact bk_ BK196⟩
        have n2_ : Aside0 (Below w.heap.size w ((w40.setCell ⟨gb196, 0, none⟩ (.int .i64 ((rd_T68 l0_0 x8_1).f0))).setCell ⟨gb196, 1, none⟩ (.int .i64 ((rd_T68 l0_0 x8_1).f1)))) := ⟨bf_ HB⟩
        (try clear BK194); (try clear BK196); (try clear HB)
        generalize ((w40.setCell ⟨gb196, 0, none⟩ (.int .i64 ((rd_T68 l0_0 x8_1).f0))).setCell ⟨gb196, 1, none⟩ (.int .i64 ((rd_T68 l0_0 x8_1).f1))) = w43 at n0_ n1_ n2_ ⊢
        have BK194 := n0_; have BK196 := n1_; have HB := n2_; clear n0_ n1_ n2_; have n0_ := Aside0.mk (blk_drew BK194.out); have n1_ := Aside0.mk (blk_drew BK196.out); have n2_ := Aside0.mk (below_drew1 HB.out); clear BK194; clear BK196; clear HB; have BK194 := n0_; have BK196 := n1_; have HB := n2_; clear n0_ n1_ n2_
        refine start_ (n := 26) (S := fun w' => w'.cell? ⟨gb196, 0, none⟩ = some (.int .i64 ((rd_T68 l0_0 x8_1).f0)) ∧ w'.cell? ⟨gb196, 1, none⟩ = some (.int .i64 ((rd_T68 l0_0 x8_1).f1)) ∧ w'.cell? ⟨gb194, 0, none⟩ = some (.slice (some ad195) l0_0.length c0_0)) (ds := []) (bs 26 0) (by kernel_rfl) rfl rfl ⟨bt_ BK196 0, bt_ BK196 1, bt_ BK194 0⟩ (fun hHeld => ?_); refine with_tabW impl_HeapOk.tab4 impl_HeapOk.bits4 (fun HT_ HW_ => ?_)
        generalize w43.drew = w44 at BK194 BK196 HB hHeld ⊢
        refine take_ (i := 0) (N := some 13) (v := ?_) (a' := ?_) (bs 26 1) rfl rfl (take_ofW HT_.out HW_.out (by kernel_rfl)) (fun _ _ _ h => h) (Or.inl ⟨by rfl, ?_⟩) hHeld ?_ ?_
        rotate_left
        ·rintro w' ⟨s0, s1, s2⟩
         go_simp
         with_reducible rfl
        rotate_left
        ·simp only [Act.put, List.setIfInBounds_toArray, List.set_cons_zero, List.set_cons_succ, i64_w, i32_w]
         rfl
        refine one_ (i := 1) (N := some 14) (bs 26 2) rfl rfl (one_of HT_.out (by kernel_rfl)) (by decide) (fun K hK => ?_)
        refine goes_ Try.func101 (by kernel_rfl) rfl #[.agg #[.int .i64 ((rd_T68 l0_0 x8_1).f0), .int .i64 ((rd_T68 l0_0 x8_1).f1)]] (by rfl) rfl rfl mt_ ?_
        with_reducible refine (impl_ItemOk.calls ((rd_T68 l0_0 x8_1).f0) ((rd_T68 l0_0 x8_1).f1) true _ A7.out).mono ?_
        rintro e w45 ⟨rfl, hb⟩
        refine ⟨_, rfl, ?_⟩
        have n0_ := bb_ BK194 hb; have n1_ := bb_ BK196 hb; have n2_ := Aside0.mk (below_step (bf_ HB) hb); clear BK194; clear BK196; clear HB; have BK194 := n0_; have BK196 := n1_; have HB := n2_; clear n0_ n1_ n2_; (try clear hb); (try clear hb2); (try clear hk); (try clear hi)
        refine hK.out _ _ ⟨bt_ BK196 0, bt_ BK196 1, bt_ BK194 0⟩ (fun hHeld => ?_)
        clear hK K
        refine norm_ (a' := ?_) ?_ ?_
        rotate_left
        ·show Act.put _ (some 14) _ = _
         simp only [Act.put, List.setIfInBounds_toArray, List.set_cons_zero, List.set_cons_succ, i64_w, i32_w]
         rfl
        refine pure_s (i := 2) (N := some 15) (bs 26 3) (any_of HT_.out (by kernel_rfl)) (h := ?_)
        refine pure_s (i := 3) (N := some 16) (bs 26 4) (any_of HT_.out (by kernel_rfl)) (h := ?_)
        refine pure_s (i := 5) (N := some 18) #[oT,oT,oT,oT,oF,oT,oF,oF,oF,oF,oF,oF,oF,oF,oF,oF,oF,oF,oF,oF,oF,oF,oF,oF,oF,oF] (any_of HT_.out (by kernel_rfl)) (h := ?_)
        refine pure_s (i := 8) (N := some 21) #[oT,oT,oT,oT,oF,oT,oF,oF,oT,oF,oF,oF,oF,oF,oF,oF,oF,oF,oF,oF,oF,oF,oF,oF,oF,oF] (any_of HT_.out (by kernel_rfl)) (h := ?_)
        refine take_ (i := 4) (N := some 17) (v := ?_) (a' := ?_) #[oT,oT,oT,oT,oT,oT,oF,oF,oT,oF,oF,oF,oF,oF,oF,oF,oF,oF,oF,oF,oF,oF,oF,oF,oF,oF] rfl rfl (take_ofW HT_.out HW_.out (by kernel_rfl)) (fun _ _ _ h => h) (Or.inl ⟨by rfl, ?_⟩) hHeld ?_ ?_
        rotate_left
        ·rintro w' ⟨s0, s1, s2⟩
         go_simp
         with_reducible rfl
        rotate_left
        ·simp only [Act.put, List.setIfInBounds_toArray, List.set_cons_zero, List.set_cons_succ, i64_w, i32_w]
         rfl
        refine take_ (i := 6) (N := some 19) (v := ?_) (a' := ?_) #[oT,oT,oT,oT,oT,oT,oT,oF,oT,oF,oF,oF,oF,oF,oF,oF,oF,oF,oF,oF,oF,oF,oF,oF,oF,oF] rfl rfl (take_ofW HT_.out HW_.out (by kernel_rfl)) (fun _ _ _ h => h) (Or.inl ⟨by rfl, ?_⟩) hHeld ?_ ?_
        rotate_left
        ·rintro w' ⟨s0, s1, s2⟩
         go_simp
         with_reducible rfl
        rotate_left
        ·simp only [Act.put, List.setIfInBounds_toArray, List.set_cons_zero, List.set_cons_succ, i64_w, i32_w]
         rfl
        refine one_ (i := 7) (N := some 20) (bs 26 9) rfl rfl (one_of HT_.out (by kernel_rfl)) (by decide) (fun K hK => ?_)
        refine goes_ Try.func95 (by kernel_rfl) rfl #[.agg #[.slice (some ad195) l0_0.length c0_0], .int .i64 ((rd_T68 l0_0 x8_1).f1)] (by rfl) rfl rfl mt_ ?_
        with_reducible refine (impl_Heap_place.calls _ _ l0_0 ((rd_T68 l0_0 x8_1).f1) t198 _ ?side1 ?side2 A9.out).mono ?_
        (case side1 => repeat (first | exact (Kd.C_below HR0_0.out HB.out) | (with_reducible refine Kd.C_alloc ?_ _) | (with_reducible refine Kd.C_drewN ?_ _) | (with_reducible refine Kd.C_drew ?_)))
        (case side2 => exact HC0_0.out)
        rintro e w46 ⟨rfl, hb⟩
        refine ⟨_, rfl, ?_⟩
        have n0_ := bb_ BK194 hb; have n1_ := bb_ BK196 hb; have n2_ := Aside0.mk (below_step (bf_ HB) hb); clear BK194; clear BK196; clear HB; have BK194 := n0_; have BK196 := n1_; have HB := n2_; clear n0_ n1_ n2_; (try clear hb); (try clear hb2); (try clear hk); (try clear hi)
        refine hK.out _ _ ⟨bt_ BK196 0, bt_ BK196 1, bt_ BK194 0⟩ (fun hHeld => ?_)
        clear hK K
        refine norm_ (a' := ?_) ?_ ?_
        rotate_left
        ·show Act.put _ (some 20) _ = _
         simp only [Act.put, List.setIfInBounds_toArray, List.set_cons_zero, List.set_cons_succ, i64_w, i32_w]
         rfl
        refine pure_s (i := 9) (N := some 22) (bs 26 10) (any_of HT_.out (by kernel_rfl)) (h := ?_)
        refine pure_s (i := 10) (N := some 23) (bs 26 11) (any_of HT_.out (by kernel_rfl)) (h := ?_)
        refine pure_s (i := 11) (N := some 24) (bs 26 12) (any_of HT_.out (by kernel_rfl)) (h := ?_)
        refine pure_u (i := 12) (N := some 25) (bs 26 13) (any_of HT_.out (by kernel_rfl)) (h := ?_)
        refine pure_u (i := 13) (N := some 26) (bs 26 14) (any_of HT_.out (by kernel_rfl)) (h := ?_)
        refine pure_u (i := 14) (N := some 27) (bs 26 15) (any_of HT_.out (by kernel_rfl)) (h := ?_)
        refine pure_u (i := 15) (N := some 28) (bs 26 16) (any_of HT_.out (by kernel_rfl)) (h := ?_)
        refine pure_u (i := 16) (N := some 29) (bs 26 17) (any_of HT_.out (by kernel_rfl)) (h := ?_)
        refine pure_u (i := 17) (N := some 30) (bs 26 18) (any_of HT_.out (by kernel_rfl)) (h := ?_)
        refine pure_u (i := 18) (N := some 31) (bs 26 19) (any_of HT_.out (by kernel_rfl)) (h := ?_)
        refine pure_u (i := 19) (N := some 32) (bs 26 20) (any_of HT_.out (by kernel_rfl)) (h := ?_)
        refine pure_u (i := 20) (N := some 33) (bs 26 21) (any_of HT_.out (by kernel_rfl)) (h := ?_)
        refine pure_u (i := 21) (N := some 34) (bs 26 22) (any_of HT_.out (by kernel_rfl)) (h := ?_)
        refine pure_u (i := 22) (N := some 35) (bs 26 23) (any_of HT_.out (by kernel_rfl)) (h := ?_)
        refine pure_u (i := 23) (N := some 36) (bs 26 24) (any_of HT_.out (by kernel_rfl)) (h := ?_)
        refine pure_u (i := 24) (N := some 37) (bs 26 25) (any_of HT_.out (by kernel_rfl)) (h := ?_)
        refine pure_s (i := 25) (N := some 38) (bs 26 26) (any_of HT_.out (by kernel_rfl)) (h := ?_)
        refine done_ (done_of HT_.out (by kernel_rfl)) ?_
        try go_wp2
        go_ret
        exact ⟨by first | rfl | (simp [errW_none, errW_some] <;> rfl) | (simp [*, errW_none, errW_some] <;> rfl), bf_ HB⟩
      ·replace c8 := Bool.eq_false_iff.mpr c8
       subst c8
       have H1 : (some false) = some r := by rw [if_neg (show ¬ (false = true) by decide)] at H; exact H
       clear H
       have H := H1
       clear H1
       obtain rfl := Option.some.inj H
       have p195 : 0 ≤ (x8_1 : Int) := of_decide_eq_true (by first | (with_reducible assumption) | assumption)
       have q195 : x8_1 < (l0_0.length : Int) := of_decide_eq_true (by first | (with_reducible assumption) | assumption)
       obtain ⟨ad195, e195, hx195_0, hx195_1⟩ := at_T68 HR0_0.out x8_1 p195 q195
       cases e195
       replace hx195_0 := (HB.out.cell (World.block_lt_of_cell? w _ hx195_0)).trans hx195_0
       replace hx195_1 := (HB.out.cell (World.block_lt_of_cell? w _ hx195_1)).trans hx195_1
       replace p195 := eq_true p195
       replace q195 := eq_true q195
       try go_wp2_with (first | ((with_reducible refine gate_dst (N := 4) rfl ?_); refine box_event ?hg (N := 4) ?hd (cs := #[.int .i64 0, .int .i64 0]) (t := 68) ?hr ?_; (case hd => rfl); (case hg => rfl); (case hr => first | (go_simp; done) | (go_simp; rfl)); intro gb196 hg w47 hbox hb; have n0_ := bb_ BK194 hb; have n1_ := Aside0.mk (below_step (bf_ HB) hb); have n2_ := Aside0.mk (hbox); have n3_ := gw_ HB hg; have n4_ := gw_ HB hg; have n5_ := nl_ BK194 hg; have n6_ := ng_ BK194 hg; clear BK194; clear HB; have BK194 := n0_; have HB := n1_; have BK196 := n2_; have GW196 := n3_; have GE196 := n4_; have NB194_196 := n5_; have NB196_194 := n6_; clear n0_ n1_ n2_ n3_ n4_ n5_ n6_; clear hb hbox hg; have hnb48 := NB196_194.out; have hnc48 := NB194_196.out; have hcz49_0 := bc_ BK196 0 (.int .i64 0) rfl; have hcz49_1 := bc_ BK196 1 (.int .i64 0) rfl; have hfz49_0 := blk_frozen BK196.out 0; have hfz49_1 := blk_frozen BK196.out 1))
       have n0_ : Aside0 (((w47.setCell ⟨gb196, 0, none⟩ (.int .i64 ((rd_T68 l0_0 x8_1).f0))).setCell ⟨gb196, 1, none⟩ (.int .i64 ((rd_T68 l0_0 x8_1).f1))).heap[gb194]? = some (.cells #[.slice (some ad195) l0_0.length c0_0] 29 (0, 0))) := ⟨by (with_reducible repeat (first | refine blk_drewN ?_ _ | refine blk_drew ?_ | refine blk_alloc ?_ _)); refine blk_far ?_ NB194_196.out _; (with_reducible repeat (first | refine blk_drewN ?_ _ | refine blk_drew ?_ | refine blk_alloc ?_ _)); refine blk_far ?_ NB194_196.out _; exact bk_ BK194⟩
       have n1_ : Aside0 (((w47.setCell ⟨gb196, 0, none⟩ (.int .i64 ((rd_T68 l0_0 x8_1).f0))).setCell ⟨gb196, 1, none⟩ (.int .i64 ((rd_T68 l0_0 x8_1).f1))).heap[gb196]? = some (.cells #[.int .i64 ((rd_T68 l0_0 x8_1).f0), .int .i64 ((rd_T68 l0_0 x8_1).f1)] 68 (0, 0))) := ⟨by (with_reducible repeat (first | refine blk_drewN ?_ _ | refine blk_drew ?_ | refine blk_alloc ?_ _)); refine blk_put (cs := #[.int .i64 ((rd_T68 l0_0 x8_1).f0), .int .i64 0]) ?_ 1 _ rfl; (with_reducible repeat (first | refine blk_drewN ?_ _ | refine blk_drew ?_ | refine blk_alloc ?_ _)); refine blk_put (cs := #[.int .i64 0, .int .i64 0]) ?_ 0 _ rfl; exact bk_ BK196⟩
       have n2_ : Aside0 (Below w.heap.size w ((w47.setCell ⟨gb196, 0, none⟩ (.int .i64 ((rd_T68 l0_0 x8_1).f0))).setCell ⟨gb196, 1, none⟩ (.int .i64 ((rd_T68 l0_0 x8_1).f1)))) := ⟨bf_ HB⟩
       (try clear BK194); (try clear BK196); (try clear HB)
       generalize ((w47.setCell ⟨gb196, 0, none⟩ (.int .i64 ((rd_T68 l0_0 x8_1).f0))).setCell ⟨gb196, 1, none⟩ (.int .i64 ((rd_T68 l0_0 x8_1).f1))) = w50 at n0_ n1_ n2_ ⊢
       have BK194 := n0_; have BK196 := n1_; have HB := n2_; clear n0_ n1_ n2_; have n0_ := Aside0.mk (blk_drew BK194.out); have n1_ := Aside0.mk (blk_drew BK196.out); have n2_ := Aside0.mk (below_drew1 HB.out); clear BK194; clear BK196; clear HB; have BK194 := n0_; have BK196 := n1_; have HB := n2_; clear n0_ n1_ n2_
       refine start_ (n := 26) (S := fun w' => w'.cell? ⟨gb196, 0, none⟩ = some (.int .i64 ((rd_T68 l0_0 x8_1).f0)) ∧ w'.cell? ⟨gb196, 1, none⟩ = some (.int .i64 ((rd_T68 l0_0 x8_1).f1))) (ds := []) (bs 26 0) (by kernel_rfl) rfl rfl ⟨bt_ BK196 0, bt_ BK196 1⟩ (fun hHeld => ?_); refine with_tabW impl_HeapOk.tab4 impl_HeapOk.bits4 (fun HT_ HW_ => ?_)
       generalize w50.drew = w51 at BK194 BK196 HB hHeld ⊢
       refine take_ (i := 0) (N := some 13) (v := ?_) (a' := ?_) (bs 26 1) rfl rfl (take_ofW HT_.out HW_.out (by kernel_rfl)) (fun _ _ _ h => h) (Or.inl ⟨by rfl, ?_⟩) hHeld ?_ ?_
       rotate_left
       ·rintro w' ⟨s0, s1⟩
        go_simp
        with_reducible rfl
       rotate_left
       ·simp only [Act.put, List.setIfInBounds_toArray, List.set_cons_zero, List.set_cons_succ, i64_w, i32_w]
        rfl
       refine one_ (i := 1) (N := some 14) (bs 26 2) rfl rfl (one_of HT_.out (by kernel_rfl)) (by decide) (fun K hK => ?_)
       refine goes_ Try.func101 (by kernel_rfl) rfl #[.agg #[.int .i64 ((rd_T68 l0_0 x8_1).f0), .int .i64 ((rd_T68 l0_0 x8_1).f1)]] (by rfl) rfl rfl mt_ ?_
       with_reducible refine (impl_ItemOk.calls ((rd_T68 l0_0 x8_1).f0) ((rd_T68 l0_0 x8_1).f1) false _ A7.out).mono ?_
       rintro e w52 ⟨rfl, hb⟩
       refine ⟨_, rfl, ?_⟩
       have n0_ := bb_ BK194 hb; have n1_ := bb_ BK196 hb; have n2_ := Aside0.mk (below_step (bf_ HB) hb); clear BK194; clear BK196; clear HB; have BK194 := n0_; have BK196 := n1_; have HB := n2_; clear n0_ n1_ n2_; (try clear hb); (try clear hb2); (try clear hk); (try clear hi)
       refine hK.out _ _ ⟨bt_ BK196 0, bt_ BK196 1⟩ (fun hHeld => ?_)
       clear hK K
       refine norm_ (a' := ?_) ?_ ?_
       rotate_left
       ·show Act.put _ (some 14) _ = _
        simp only [Act.put, List.setIfInBounds_toArray, List.set_cons_zero, List.set_cons_succ, i64_w, i32_w]
        rfl
       refine pure_s (i := 2) (N := some 15) (bs 26 3) (any_of HT_.out (by kernel_rfl)) (h := ?_)
       refine pure_s (i := 3) (N := some 16) (bs 26 4) (any_of HT_.out (by kernel_rfl)) (h := ?_)
       refine pure_u (i := 4) (N := some 17) (bs 26 5) (any_of HT_.out (by kernel_rfl)) (h := ?_)
       refine pure_u (i := 5) (N := some 18) (bs 26 6) (any_of HT_.out (by kernel_rfl)) (h := ?_)
       refine pure_u (i := 6) (N := some 19) (bs 26 7) (any_of HT_.out (by kernel_rfl)) (h := ?_)
       refine pure_u (i := 7) (N := some 20) (bs 26 8) (any_of HT_.out (by kernel_rfl)) (h := ?_)
       refine pure_u (i := 8) (N := some 21) (bs 26 9) (any_of HT_.out (by kernel_rfl)) (h := ?_)
       refine pure_u (i := 9) (N := some 22) (bs 26 10) (any_of HT_.out (by kernel_rfl)) (h := ?_)
       refine pure_s (i := 10) (N := some 23) (bs 26 11) (any_of HT_.out (by kernel_rfl)) (h := ?_)
       refine pure_s (i := 11) (N := some 24) (bs 26 12) (any_of HT_.out (by kernel_rfl)) (h := ?_)
       refine pure_u (i := 12) (N := some 25) (bs 26 13) (any_of HT_.out (by kernel_rfl)) (h := ?_)
       refine pure_u (i := 13) (N := some 26) (bs 26 14) (any_of HT_.out (by kernel_rfl)) (h := ?_)
       refine pure_u (i := 14) (N := some 27) (bs 26 15) (any_of HT_.out (by kernel_rfl)) (h := ?_)
       refine pure_u (i := 15) (N := some 28) (bs 26 16) (any_of HT_.out (by kernel_rfl)) (h := ?_)
       refine pure_u (i := 16) (N := some 29) (bs 26 17) (any_of HT_.out (by kernel_rfl)) (h := ?_)
       refine pure_u (i := 17) (N := some 30) (bs 26 18) (any_of HT_.out (by kernel_rfl)) (h := ?_)
       refine pure_u (i := 18) (N := some 31) (bs 26 19) (any_of HT_.out (by kernel_rfl)) (h := ?_)
       refine pure_u (i := 19) (N := some 32) (bs 26 20) (any_of HT_.out (by kernel_rfl)) (h := ?_)
       refine pure_u (i := 20) (N := some 33) (bs 26 21) (any_of HT_.out (by kernel_rfl)) (h := ?_)
       refine pure_u (i := 21) (N := some 34) (bs 26 22) (any_of HT_.out (by kernel_rfl)) (h := ?_)
       refine pure_u (i := 22) (N := some 35) (bs 26 23) (any_of HT_.out (by kernel_rfl)) (h := ?_)
       refine pure_u (i := 23) (N := some 36) (bs 26 24) (any_of HT_.out (by kernel_rfl)) (h := ?_)
       refine pure_u (i := 24) (N := some 37) (bs 26 25) (any_of HT_.out (by kernel_rfl)) (h := ?_)
       refine pure_s (i := 25) (N := some 38) (bs 26 26) (any_of HT_.out (by kernel_rfl)) (h := ?_)
       refine done_ (done_of HT_.out (by kernel_rfl)) ?_
       try go_wp2
       go_ret
       exact ⟨by first | rfl | (simp [errW_none, errW_some] <;> rfl) | (simp [*, errW_none, errW_some] <;> rfl), bf_ HB⟩
     ·rw [if_neg c6] at H
      exact absurd H (by simp)
    ·rw [if_neg c5] at H
     exact absurd H (by simp)
   ·rw [if_neg c4] at H
    have c4b0 : decide (x8_1 < (l0_0.length : Int)) = false := decide_eq_false c4
    clear c4
    obtain rfl := Option.some.inj H
    have hcz53_0 := bc_ BK194 0 (.slice A0_0 l0_0.length c0_0) rfl; have hfz53_0 := blk_frozen BK194.out 0
    go_wp2
    go_ret
    exact ⟨by first | rfl | (simp [errW_none, errW_some] <;> rfl) | (simp [*, errW_none, errW_some] <;> rfl), bf_ HB⟩

/-! ### impl_Item_65: function 65 -/
def impl_Item_65.f (l0 : List (S68)) : Option ((List (S68))) := (some (([] : List (S68)) : List (S68))).bind fun y201 => (if y201.length + l0.length < 8796093022208 then (some (y201 ++ l0)) else (none))
set_option maxHeartbeats 8000000 in
set_option maxRecDepth 100000 in
theorem impl_Item_65.calls_some (A0 : Addr) (c0 : Nat) (l0 : List (S68)) (r : List (S68)) (w : World) (hr0 : Kd.C k68 w (some A0) l0.length l0) (hc0 : l0.length ≤ c0) (h : impl_Item_65.f l0 = some r) :
  Calls Try.prog 65 #[.slice (some A0) l0.length c0] w fun e w' => ∃ v0_ : Value, e = .returned (v0_) ∧ Kd.R k68 68 w' w.heap.size (fun _ => True) v0_ r ∧ Below w.heap.size w w' := by
 have hnil0_ := fun (W : World) (n c : Nat) => Lib.run_eql_slice_nil (P := Try.prog) W 26 68 (some A0) n c 0 0 Try.underlying26
 have HR0 := Aside0.mk hr0
 have HC0 := Aside0.mk hc0
 clear hr0 hc0; have HB := Aside0.mk (Below.refl w.heap.size w)
 have H : ((some (([] : List (S68)) : List (S68))).bind fun y201 => (if y201.length + l0.length < 8796093022208 then (some (y201 ++ l0)) else (none))) = some r := h
 clear h
 obtain ⟨y201, hy201⟩ : ∃ y_ : List (S68), y_ = (([] : List (S68))) := ⟨_, rfl⟩
 replace H : (if y201.length + l0.length < 8796093022208 then (some (y201 ++ l0)) else (none)) = some r := by first | (rw [hy201]; with_reducible exact H) | (have H2_ := (Option.bind_some _ _).symm.trans H; rw [hy201]; with_reducible exact H2_) | (have H2_ := (Option.bind_some _ _).symm.trans H; with_reducible exact H2_) | with_reducible exact H | (rw [hy201]; exact H) | exact H
 have Ny201 := Aside0.mk hy201
 clear hy201
 by_cases c2 : y201.length + l0.length < 8796093022208
 ·rw [if_pos c2] at H
  have LMc2 := Aside0.mk c2
  clear c2
  obtain ⟨y204, hy204⟩ : ∃ y_ : List (S68), y_ = (y201 ++ l0) := ⟨_, rfl⟩
  replace H : (some y204) = some r := by first | (rw [hy204]; with_reducible exact H) | (have H2_ := (Option.bind_some _ _).symm.trans H; rw [hy204]; with_reducible exact H2_) | (have H2_ := (Option.bind_some _ _).symm.trans H; with_reducible exact H2_) | with_reducible exact H | (rw [hy204]; exact H) | exact H
  have Ny204 := Aside0.mk hy204
  clear hy204
  obtain rfl := Option.some.inj H
  go_enter Try.func65, Try.ntmps65
  go_wp2_with (first | ((with_reducible refine gate_dst (N := 5) rfl ?_); refine Kd.R_lit k68 _ 68 ?hg (N := 5) ?hd (xs := ([] : List (S68))) (inner := []) (ok := fun _ => True) (okp := fun _ => True) ?hr ?hp (fun _ hk => by first | exact hk | grind) trivial (Below.refl _ _) (Nat.le_refl _) (by simp) ?_; (case hd => rfl); (case hg => rfl); (case hr => first | (go_simp; done) | (go_simp; rfl)); (case hp => exact (Reps.none _ _)); intro v202 w3 ho4 hb hg_ hnew_; clear hg_ hnew_; (first | rw [← Ny201.out] at ho4 | (simp only [Int.reduceToNat] at ho4; rw [← Ny201.out] at ho4)); have n0_ := Aside0.mk (Kd.R_lower ho4 (below_size (be_ HB))); have n1_ := Aside0.mk (below_step (be_ HB) hb); clear HB; have HO203 := n0_; have HB := n1_; clear n0_ n1_; clear hb ho4) | ((with_reducible refine gate_builtin (b := .append) (xs := #[.tmp 5, .tmp 6]) rfl ?_); at_builtin; refine Kd.R_append_rows k68 (w0 := w) w.heap.size rfl (.tmp 5) (.tmp 6) 26 68 (.agg #[(.int .i64 0), (.int .i64 0)]) 16 rfl Try.underlying26 info68 rfl (by decide) (by omega) v202 y201 l0 _ _ _ (fun _ => True) (fun _ => False) rfl rfl ?aO ?aR (fun _ _ h => h) (fun _ h => h.elim) ?aF ?aB ?aS ?aL ?_; (case aR => repeat (first | exact (Kd.C_below HR0.out HB.out) | (with_reducible refine Kd.C_alloc ?_ _) | (with_reducible refine Kd.C_drewN ?_ _) | (with_reducible refine Kd.C_drew ?_))); (case aB => exact (be_ HB)); (case aF => exact (fun _ _ => trivial)); (case aO => exact (kr_ HO203)); (case aS => exact (below_size (be_ HB))); (case aL => have := LMc2.out; omega); intro v205 w5 ho hb hg hat; rw [← Ny204.out] at ho; have n0_ := Aside0.mk (hb); have n1_ := Aside0.mk (ho); clear HB; clear HO203; have HB := n0_; have HO206 := n1_; clear n0_ n1_; clear ho hb hg hat))
  go_ret
  exact ⟨_, by first | rfl | (simp [errW_none, errW_some] <;> rfl) | (simp [*, errW_none, errW_some] <;> rfl), by (with_reducible repeat (first | apply Kd.R_alloc | apply Kd.R_drewN | apply Kd.R_drew)); exact HO206.out, be_ HB⟩
 ·rw [if_neg c2] at H
  exact absurd H (by simp)
set_option maxHeartbeats 8000000 in
set_option maxRecDepth 100000 in
theorem impl_Item_65.calls (A0 : Option Addr) (c0 : Nat) (l0 : List (S68)) (r : List (S68)) (w : World) (hr0 : Kd.C k68 w A0 l0.length l0) (hc0 : l0.length ≤ c0) (h : impl_Item_65.f l0 = some r) :
  Calls Try.prog 65 #[.slice A0 l0.length c0] w fun e w' => ∃ v0_ : Value, e = .returned (v0_) ∧ Kd.R k68 68 w' w.heap.size (fun _ => True) v0_ r ∧ Below w.heap.size w w' := by
  cases A0 with
  | some a_ => exact impl_Item_65.calls_some a_ c0 l0 r w hr0 hc0 h
  | none =>
    obtain rfl : l0 = [] := by
      rcases l0 with _ | ⟨x_, t_⟩
      · rfl
      · obtain ⟨ad_, h0_, _⟩ := hr0.2.2 (by simp)
        cases h0_
    obtain rfl : r = [] := by simpa [impl_Item_65.f] using h.symm
    have hnil0_ := fun (W : World) (n c : Nat) => Lib.run_eql_slice_nil (P := Try.prog) W 26 68 none n c 0 0 Try.underlying26
    clear hr0 hc0 h
    go_enter Try.func65, Try.ntmps65
    go_wp2
    go_ret
    exact ⟨_, rfl, Kd.R_nil _ _ _ _ _, Below.refl _ _⟩

-- NOT PRINTED: function 66 (impl_Item_66)

/-! ### impl_HeapOrder_1: function 67 -/
def impl_HeapOrder_1.f (a0_0 : Int) (a0_1 : Int) (a1_0 : Int) (a1_1 : Int) : Option (Int) := (impl_Ahead.f a0_0 a0_1 a1_0 a1_1).bind fun t209 => (if t209 = true then (some (-1)) else ((impl_Ahead.f a1_0 a1_1 a0_0 a0_1).bind fun t210 => (if t210 = true then (some 1) else (some 0))))
set_option maxHeartbeats 8000000 in
set_option maxRecDepth 100000 in
theorem impl_HeapOrder_1.calls (a0_0 : Int) (a0_1 : Int) (a1_0 : Int) (a1_1 : Int) (r : Int) (w : World) (h : impl_HeapOrder_1.f a0_0 a0_1 a1_0 a1_1 = some r) :
  Calls Try.prog 67 #[.agg #[.int .i64 a0_0, .int .i64 a0_1], .agg #[.int .i64 a1_0, .int .i64 a1_1]] w fun e w' => e = .returned (.int .i64 r) ∧ Below w.heap.size w w' := by
 have hu68 := Try.underlying68; have HB := Aside0.mk (Below.refl w.heap.size w)
 have H : ((impl_Ahead.f a0_0 a0_1 a1_0 a1_1).bind fun t209 => (if t209 = true then (some (-1)) else ((impl_Ahead.f a1_0 a1_1 a0_0 a0_1).bind fun t210 => (if t210 = true then (some 1) else (some 0))))) = some r := h
 clear h
 replace H := Option.bind_eq_some_iff.mp H
 obtain ⟨t209, A30, H⟩ := H
 replace H : (if t209 = true then (some (-1)) else ((impl_Ahead.f a1_0 a1_1 a0_0 a0_1).bind fun t210 => (if t210 = true then (some 1) else (some 0)))) = some r := H
 have A3 := Aside0.mk A30
 clear A30
 by_cases c4 : t209 = true
 ·subst c4
  have H1 : (some (-1)) = some r := by rw [if_pos rfl] at H; exact H
  clear H
  have H := H1
  clear H1
  obtain rfl := Option.some.inj H
  go_enter Try.func67, Try.ntmps67
  go_wp2_with (first | ((with_reducible refine gate_dst (N := 2) rfl ?_); refine box_event ?hg (N := 2) ?hd (cs := #[.int .i64 a0_0, .int .i64 a0_1]) (t := 68) ?hr ?_; (case hd => rfl); (case hg => rfl); (case hr => first | (go_simp; done) | (go_simp; rfl)); intro gb207 hg w5 hbox hb; have n0_ := Aside0.mk (below_step (be_ HB) hb); have n1_ := Aside0.mk (hbox); have n2_ := gw_ HB hg; have n3_ := gw_ HB hg; clear HB; have HB := n0_; have BK207 := n1_; have GW207 := n2_; have GE207 := n3_; clear n0_ n1_ n2_ n3_; clear hb hbox hg) | ((with_reducible refine gate_dst (N := 3) rfl ?_); refine box_event ?hg (N := 3) ?hd (cs := #[.int .i64 a1_0, .int .i64 a1_1]) (t := 68) ?hr ?_; (case hd => rfl); (case hg => rfl); (case hr => first | (go_simp; done) | (go_simp; rfl)); intro gb208 hg w6 hbox hb; have n0_ := bb_ BK207 hb; have n1_ := Aside0.mk (below_step (bf_ HB) hb); have n2_ := Aside0.mk (hbox); have n3_ := gw_ HB hg; have n4_ := gw_ HB hg; have n5_ := nl_ BK207 hg; have n6_ := ng_ BK207 hg; clear BK207; clear HB; have BK207 := n0_; have HB := n1_; have BK208 := n2_; have GW208 := n3_; have GE208 := n4_; have NB207_208 := n5_; have NB208_207 := n6_; clear n0_ n1_ n2_ n3_ n4_ n5_ n6_; clear hb hbox hg; have hnb7 := NB207_208.out; have hnc7 := NB208_207.out; have hcz8_0 := bc_ BK207 0 (.int .i64 a0_0) rfl; have hcz8_1 := bc_ BK207 1 (.int .i64 a0_1) rfl; have hfz8_0 := blk_frozen BK207.out 0; have hfz8_1 := blk_frozen BK207.out 1; have hcz9_0 := bc_ BK208 0 (.int .i64 a1_0) rfl; have hcz9_1 := bc_ BK208 1 (.int .i64 a1_1) rfl; have hfz9_0 := blk_frozen BK208.out 0; have hfz9_1 := blk_frozen BK208.out 1) | ((with_reducible refine gate_callee (f := 68) rfl ?_); refine goesL_ (some 8) rfl rfl Try.func68 (by kernel_rfl) rfl #[.agg #[.int .i64 a0_0, .int .i64 a0_1], .agg #[.int .i64 a1_0, .int .i64 a1_1]] rfl mt_ ?_; (with_reducible refine (impl_Ahead.calls a0_0 a0_1 a1_0 a1_1 true _ A3.out).mono ?_); rintro e w10 ⟨rfl, hb⟩; refine ⟨_, rfl, ?_⟩; have n0_ := bb_ BK207 hb; have n1_ := bb_ BK208 hb; have n2_ := Aside0.mk (below_step (bf_ HB) hb); clear BK207; clear BK208; clear HB; have BK207 := n0_; have BK208 := n1_; have HB := n2_; clear n0_ n1_ n2_; (try clear hb); (try clear hb2); (try clear hk); (try clear hi)))
  go_ret
  exact ⟨by first | rfl | (simp [errW_none, errW_some] <;> rfl) | (simp [*, errW_none, errW_some] <;> rfl), bf_ HB⟩
 ·replace c4 := Bool.eq_false_iff.mpr c4
  subst c4
  have H1 : ((impl_Ahead.f a1_0 a1_1 a0_0 a0_1).bind fun t210 => (if t210 = true then (some 1) else (some 0))) = some r := by rw [if_neg (show ¬ (false = true) by decide)] at H; exact H
  clear H
  have H := H1
  clear H1
  replace H := Option.bind_eq_some_iff.mp H
  obtain ⟨t210, A110, H⟩ := H
  replace H : (if t210 = true then (some 1) else (some 0)) = some r := H
  have A11 := Aside0.mk A110
  clear A110
  by_cases c12 : t210 = true
  ·subst c12
   have H1 : (some 1) = some r := by rw [if_pos rfl] at H; exact H
   clear H
   have H := H1
   clear H1
   obtain rfl := Option.some.inj H
   go_enter Try.func67, Try.ntmps67
   go_wp2_with (first | ((with_reducible refine gate_dst (N := 2) rfl ?_); refine box_event ?hg (N := 2) ?hd (cs := #[.int .i64 a0_0, .int .i64 a0_1]) (t := 68) ?hr ?_; (case hd => rfl); (case hg => rfl); (case hr => first | (go_simp; done) | (go_simp; rfl)); intro gb207 hg w13 hbox hb; have n0_ := Aside0.mk (below_step (be_ HB) hb); have n1_ := Aside0.mk (hbox); have n2_ := gw_ HB hg; have n3_ := gw_ HB hg; clear HB; have HB := n0_; have BK207 := n1_; have GW207 := n2_; have GE207 := n3_; clear n0_ n1_ n2_ n3_; clear hb hbox hg) | ((with_reducible refine gate_dst (N := 3) rfl ?_); refine box_event ?hg (N := 3) ?hd (cs := #[.int .i64 a1_0, .int .i64 a1_1]) (t := 68) ?hr ?_; (case hd => rfl); (case hg => rfl); (case hr => first | (go_simp; done) | (go_simp; rfl)); intro gb208 hg w14 hbox hb; have n0_ := bb_ BK207 hb; have n1_ := Aside0.mk (below_step (bf_ HB) hb); have n2_ := Aside0.mk (hbox); have n3_ := gw_ HB hg; have n4_ := gw_ HB hg; have n5_ := nl_ BK207 hg; have n6_ := ng_ BK207 hg; clear BK207; clear HB; have BK207 := n0_; have HB := n1_; have BK208 := n2_; have GW208 := n3_; have GE208 := n4_; have NB207_208 := n5_; have NB208_207 := n6_; clear n0_ n1_ n2_ n3_ n4_ n5_ n6_; clear hb hbox hg; have hnb15 := NB207_208.out; have hnc15 := NB208_207.out; have hcz16_0 := bc_ BK207 0 (.int .i64 a0_0) rfl; have hcz16_1 := bc_ BK207 1 (.int .i64 a0_1) rfl; have hfz16_0 := blk_frozen BK207.out 0; have hfz16_1 := blk_frozen BK207.out 1; have hcz17_0 := bc_ BK208 0 (.int .i64 a1_0) rfl; have hcz17_1 := bc_ BK208 1 (.int .i64 a1_1) rfl; have hfz17_0 := blk_frozen BK208.out 0; have hfz17_1 := blk_frozen BK208.out 1) | ((with_reducible refine gate_callee (f := 68) rfl ?_); refine goesL_ (some 8) rfl rfl Try.func68 (by kernel_rfl) rfl #[.agg #[.int .i64 a0_0, .int .i64 a0_1], .agg #[.int .i64 a1_0, .int .i64 a1_1]] rfl mt_ ?_; (with_reducible refine (impl_Ahead.calls a0_0 a0_1 a1_0 a1_1 false _ A3.out).mono ?_); rintro e w18 ⟨rfl, hb⟩; refine ⟨_, rfl, ?_⟩; have n0_ := bb_ BK207 hb; have n1_ := bb_ BK208 hb; have n2_ := Aside0.mk (below_step (bf_ HB) hb); clear BK207; clear BK208; clear HB; have BK207 := n0_; have BK208 := n1_; have HB := n2_; clear n0_ n1_ n2_; (try clear hb); (try clear hb2); (try clear hk); (try clear hi); have hcz19_0 := bc_ BK208 0 (.int .i64 a1_0) rfl; have hcz19_1 := bc_ BK208 1 (.int .i64 a1_1) rfl; have hfz19_0 := blk_frozen BK208.out 0; have hfz19_1 := blk_frozen BK208.out 1; have hcz20_0 := bc_ BK207 0 (.int .i64 a0_0) rfl; have hcz20_1 := bc_ BK207 1 (.int .i64 a0_1) rfl; have hfz20_0 := blk_frozen BK207.out 0; have hfz20_1 := blk_frozen BK207.out 1) | ((with_reducible refine gate_callee (f := 68) rfl ?_); refine goesL_ (some 12) rfl rfl Try.func68 (by kernel_rfl) rfl #[.agg #[.int .i64 a1_0, .int .i64 a1_1], .agg #[.int .i64 a0_0, .int .i64 a0_1]] rfl mt_ ?_; (with_reducible refine (impl_Ahead.calls a1_0 a1_1 a0_0 a0_1 true _ A11.out).mono ?_); rintro e w21 ⟨rfl, hb⟩; refine ⟨_, rfl, ?_⟩; have n0_ := bb_ BK207 hb; have n1_ := bb_ BK208 hb; have n2_ := Aside0.mk (below_step (bf_ HB) hb); clear BK207; clear BK208; clear HB; have BK207 := n0_; have BK208 := n1_; have HB := n2_; clear n0_ n1_ n2_; (try clear hb); (try clear hb2); (try clear hk); (try clear hi)))
   go_ret
   exact ⟨by first | rfl | (simp [errW_none, errW_some] <;> rfl) | (simp [*, errW_none, errW_some] <;> rfl), bf_ HB⟩
  ·replace c12 := Bool.eq_false_iff.mpr c12
   subst c12
   have H1 : (some 0) = some r := by rw [if_neg (show ¬ (false = true) by decide)] at H; exact H
   clear H
   have H := H1
   clear H1
   obtain rfl := Option.some.inj H
   go_enter Try.func67, Try.ntmps67
   go_wp2_with (first | ((with_reducible refine gate_dst (N := 2) rfl ?_); refine box_event ?hg (N := 2) ?hd (cs := #[.int .i64 a0_0, .int .i64 a0_1]) (t := 68) ?hr ?_; (case hd => rfl); (case hg => rfl); (case hr => first | (go_simp; done) | (go_simp; rfl)); intro gb207 hg w22 hbox hb; have n0_ := Aside0.mk (below_step (be_ HB) hb); have n1_ := Aside0.mk (hbox); have n2_ := gw_ HB hg; have n3_ := gw_ HB hg; clear HB; have HB := n0_; have BK207 := n1_; have GW207 := n2_; have GE207 := n3_; clear n0_ n1_ n2_ n3_; clear hb hbox hg) | ((with_reducible refine gate_dst (N := 3) rfl ?_); refine box_event ?hg (N := 3) ?hd (cs := #[.int .i64 a1_0, .int .i64 a1_1]) (t := 68) ?hr ?_; (case hd => rfl); (case hg => rfl); (case hr => first | (go_simp; done) | (go_simp; rfl)); intro gb208 hg w23 hbox hb; have n0_ := bb_ BK207 hb; have n1_ := Aside0.mk (below_step (bf_ HB) hb); have n2_ := Aside0.mk (hbox); have n3_ := gw_ HB hg; have n4_ := gw_ HB hg; have n5_ := nl_ BK207 hg; have n6_ := ng_ BK207 hg; clear BK207; clear HB; have BK207 := n0_; have HB := n1_; have BK208 := n2_; have GW208 := n3_; have GE208 := n4_; have NB207_208 := n5_; have NB208_207 := n6_; clear n0_ n1_ n2_ n3_ n4_ n5_ n6_; clear hb hbox hg; have hnb24 := NB207_208.out; have hnc24 := NB208_207.out; have hcz25_0 := bc_ BK207 0 (.int .i64 a0_0) rfl; have hcz25_1 := bc_ BK207 1 (.int .i64 a0_1) rfl; have hfz25_0 := blk_frozen BK207.out 0; have hfz25_1 := blk_frozen BK207.out 1; have hcz26_0 := bc_ BK208 0 (.int .i64 a1_0) rfl; have hcz26_1 := bc_ BK208 1 (.int .i64 a1_1) rfl; have hfz26_0 := blk_frozen BK208.out 0; have hfz26_1 := blk_frozen BK208.out 1) | ((with_reducible refine gate_callee (f := 68) rfl ?_); refine goesL_ (some 8) rfl rfl Try.func68 (by kernel_rfl) rfl #[.agg #[.int .i64 a0_0, .int .i64 a0_1], .agg #[.int .i64 a1_0, .int .i64 a1_1]] rfl mt_ ?_; (with_reducible refine (impl_Ahead.calls a0_0 a0_1 a1_0 a1_1 false _ A3.out).mono ?_); rintro e w27 ⟨rfl, hb⟩; refine ⟨_, rfl, ?_⟩; have n0_ := bb_ BK207 hb; have n1_ := bb_ BK208 hb; have n2_ := Aside0.mk (below_step (bf_ HB) hb); clear BK207; clear BK208; clear HB; have BK207 := n0_; have BK208 := n1_; have HB := n2_; clear n0_ n1_ n2_; (try clear hb); (try clear hb2); (try clear hk); (try clear hi); have hcz28_0 := bc_ BK208 0 (.int .i64 a1_0) rfl; have hcz28_1 := bc_ BK208 1 (.int .i64 a1_1) rfl; have hfz28_0 := blk_frozen BK208.out 0; have hfz28_1 := blk_frozen BK208.out 1; have hcz29_0 := bc_ BK207 0 (.int .i64 a0_0) rfl; have hcz29_1 := bc_ BK207 1 (.int .i64 a0_1) rfl; have hfz29_0 := blk_frozen BK207.out 0; have hfz29_1 := blk_frozen BK207.out 1) | ((with_reducible refine gate_callee (f := 68) rfl ?_); refine goesL_ (some 12) rfl rfl Try.func68 (by kernel_rfl) rfl #[.agg #[.int .i64 a1_0, .int .i64 a1_1], .agg #[.int .i64 a0_0, .int .i64 a0_1]] rfl mt_ ?_; (with_reducible refine (impl_Ahead.calls a1_0 a1_1 a0_0 a0_1 false _ A11.out).mono ?_); rintro e w30 ⟨rfl, hb⟩; refine ⟨_, rfl, ?_⟩; have n0_ := bb_ BK207 hb; have n1_ := bb_ BK208 hb; have n2_ := Aside0.mk (below_step (bf_ HB) hb); clear BK207; clear BK208; clear HB; have BK207 := n0_; have BK208 := n1_; have HB := n2_; clear n0_ n1_ n2_; (try clear hb); (try clear hb2); (try clear hk); (try clear hi)))
   go_ret
   exact ⟨by first | rfl | (simp [errW_none, errW_some] <;> rfl) | (simp [*, errW_none, errW_some] <;> rfl), bf_ HB⟩

end Go.Proofs.Ytnklakficjpmoaa.PFnExactHeapOrder
