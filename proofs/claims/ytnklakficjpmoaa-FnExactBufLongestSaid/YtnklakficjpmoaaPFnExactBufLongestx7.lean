-- printed by a program of this session (wip/printx) out of the translation; Lean checks it
import Derived.Test.YtnklakficjpmoaaPFnExactBufLongestx0
import Derived.Test.YtnklakficjpmoaaPFnExactBufLongestx1
import Derived.Test.YtnklakficjpmoaaPFnExactBufLongestx2
import Derived.Test.YtnklakficjpmoaaPFnExactBufLongestx5
import Derived.Test.YtnklakficjpmoaaPFnExactBufLongestx6
namespace Go.Proofs.Ytnklakficjpmoaa.PFnExactBufLongest
open Go.RowKit Go.Proofs.YtnklakficjpmoaaW.PrintWords Go.Proofs.YtnklakficjpmoaaW.PrintLast Go.Proofs.YtnklakficjpmoaaW.PrintMore
attribute [local go_sem] max2_int min2_int max_two min_two max_three min_three max_four min_four   -- for this text's walks alone
set_option linter.unusedVariables false
set_option linter.unusedSimpArgs false

/-! ### impl_Buf_longest: function 107 -/
def impl_Buf_longest.l0 : Nat → Int → List (S80) → Int → Int → Int → Int → Int → Int → Bool → List (S80) → Option (Int)
  | 0, _, _, _, _, _, _, _, _, _, _ => none
  | k + 1, x3, x7, x8, x9, x222000, x222001, x222002, x222003, x222004, x222005 => if x9 < x8 then (if 0 ≤ x9 then (if x9 < (x7.length : Int) then (if x3 < 0 then (impl_Buf_longest.l0 k x9 x7 x8 (wrap64 (x9 + 1)) x222000 x222001 x222002 x222003 x222004 x222005) else ((impl_Lane_bytes.f k ((rd_T80 x7 x9).f0) ((rd_T80 x7 x9).f1)).bind fun t224 => (if 0 ≤ x3 then (if x3 < (x222005.length : Int) then ((impl_Lane_bytes.f k ((rd_T80 x222005 x3).f0) ((rd_T80 x222005 x3).f1)).bind fun t226 => (if t224 > t226 then (impl_Buf_longest.l0 k x9 x7 x8 (wrap64 (x9 + 1)) x222000 x222001 x222002 x222003 x222004 x222005) else (impl_Buf_longest.l0 k x3 x7 x8 (wrap64 (x9 + 1)) x222000 x222001 x222002 x222003 x222004 x222005))) else (none)) else (none)))) else (none)) else (none)) else (some x3)
def impl_Buf_longest.f (k : Nat) (a0_0 : Int) (a0_1 : Int) (a0_2 : Int) (a0_3 : Int) (a0_4 : Bool) (l0_5 : List (S80)) : Option (Int) := impl_Buf_longest.l0 k (-1) l0_5 (l0_5.length : Int) 0 a0_0 a0_1 a0_2 a0_3 a0_4 l0_5
theorem impl_Buf_longest.mono_l : ∀ k, (∀ y0 y1 y2 y3 y4 y5 y6 y7 y8 y9, LeO (impl_Buf_longest.l0 k y0 y1 y2 y3 y4 y5 y6 y7 y8 y9) (impl_Buf_longest.l0 (k + 1) y0 y1 y2 y3 y4 y5 y6 y7 y8 y9))
 | 0 => fun _ _ _ _ _ _ _ _ _ _ r h => by simp [impl_Buf_longest.l0] at h
 | k + 1 => by
  have ih0 := impl_Buf_longest.mono_l k
  ·intro y0 y1 y2 y3 y4 y5 y6 y7 y8 y9
   unfold impl_Buf_longest.l0
   repeat' first
   | (with_reducible exact ih0 _ _ _ _ _ _ _ _ _ _)
   | (with_reducible exact impl_Lane_bytes.mono _ _ _)
   | (with_reducible exact LeO.refl _)
   | (with_reducible exact LeO.none _)
   | (with_reducible refine LeO.ite ?_ ?_)
   | (with_reducible refine LeO.bind ?_ (fun _ => ?_))
   | exact ih0 _ _ _ _ _ _ _ _ _ _
   | exact impl_Lane_bytes.mono _ _ _
   | exact LeO.none _
   | refine LeO.ite ?_ ?_
   | refine LeO.bind ?_ (fun _ => ?_)
theorem impl_Buf_longest.mono : ∀ a0 a1 a2 a3 a4 a5 k, LeO (impl_Buf_longest.f k a0 a1 a2 a3 a4 a5) (impl_Buf_longest.f (k + 1) a0 a1 a2 a3 a4 a5) := by
 intro a0 a1 a2 a3 a4 a5 k
 have ih0 := impl_Buf_longest.mono_l k
 unfold impl_Buf_longest.f
 repeat' first
   | (with_reducible exact ih0 _ _ _ _ _ _ _ _ _ _)
   | (with_reducible exact impl_Lane_bytes.mono _ _ _)
   | (with_reducible exact LeO.refl _)
   | (with_reducible exact LeO.none _)
   | (with_reducible refine LeO.ite ?_ ?_)
   | (with_reducible refine LeO.bind ?_ (fun _ => ?_))
   | exact ih0 _ _ _ _ _ _ _ _ _ _
   | exact impl_Lane_bytes.mono _ _ _
   | exact LeO.none _
   | refine LeO.ite ?_ ?_
   | refine LeO.bind ?_ (fun _ => ?_)
def impl_Buf_longest.T5 : Bool × List (List Nat × List Nat) := (true, [([], []), ([0], [0]), ([1], [1]), ([2], [2]), ([3, 2, 2], [2, 3]), ([2], [2]), ([5, 2], [2, 5]), ([2], [2]), ([6, 7, 2], [2, 6, 7]), ([8, 2], [2, 8]), ([9, 4, 2], [2, 9]), ([4, 10, 2], [2, 4, 10]), ([2, 11], [2, 11])])
def impl_Buf_longest.B5 : List Nat := [0, 1, 3, 7, 15, 7, 39, 7, 231, 487, 1023, 2047, 4095]
theorem impl_Buf_longest.tab5 : rtab .any (opsOf Try.f107 5) = impl_Buf_longest.T5 := by kernel_rfl
theorem impl_Buf_longest.bits5 : waitsOk impl_Buf_longest.T5.2 impl_Buf_longest.B5 = true := by kernel_rfl
set_option maxHeartbeats 8000000 in
set_option maxRecDepth 100000 in
theorem impl_Buf_longest.calls (k : Nat) (a0_0 : Int) (a0_1 : Int) (a0_2 : Int) (a0_3 : Int) (a0_4 : Bool) (A0_5 : Option Addr) (c0_5 : Nat) (l0_5 : List (S80)) (r : Int) (w : World) (hr0_5 : Kd.C k80 w A0_5 l0_5.length l0_5) (hc0_5 : l0_5.length ≤ c0_5) (h : impl_Buf_longest.f k a0_0 a0_1 a0_2 a0_3 a0_4 l0_5 = some r) :
  Calls Try.prog 107 #[.agg #[.int .i64 a0_0, .int .i64 a0_1, .int .i64 a0_2, .int .i64 a0_3, .bool a0_4, .slice A0_5 l0_5.length c0_5]] w fun e w' => e = .returned (.int .i64 r) ∧ Below w.heap.size w w' := by
 have hu47 := Try.underlying47; have hu80 := Try.underlying80
 have HR0_5 := Aside0.mk hr0_5
 have HC0_5 := Aside0.mk hc0_5
 clear hr0_5 hc0_5; have HB := Aside0.mk (Below.refl w.heap.size w)
 have H : (impl_Buf_longest.l0 k (-1) l0_5 (l0_5.length : Int) 0 a0_0 a0_1 a0_2 a0_3 a0_4 l0_5) = some r := h
 clear h
 have H' := Aside0.mk H
 clear H
 go_enter Try.func107, Try.ntmps107
 go_wp2_with (first | ((with_reducible refine gate_dst (N := 1) rfl ?_); refine box_event ?hg (N := 1) ?hd (cs := #[.int .i64 a0_0, .int .i64 a0_1, .int .i64 a0_2, .int .i64 a0_3, .bool a0_4, .slice A0_5 l0_5.length c0_5]) (t := 47) ?hr ?_; (case hd => rfl); (case hg => rfl); (case hr => first | (go_simp; done) | (go_simp; rfl)); intro gb221 hg w2 hbox hb; have n0_ := Aside0.mk (below_step (be_ HB) hb); have n1_ := Aside0.mk (hbox); have n2_ := gw_ HB hg; have n3_ := gw_ HB hg; clear HB; have HB := n0_; have BK221 := n1_; have GW221 := n2_; have GE221 := n3_; clear n0_ n1_ n2_ n3_; clear hb hbox hg; have hcz3_0 := bc_ BK221 0 (.int .i64 a0_0) rfl; have hcz3_1 := bc_ BK221 1 (.int .i64 a0_1) rfl; have hcz3_2 := bc_ BK221 2 (.int .i64 a0_2) rfl; have hcz3_3 := bc_ BK221 3 (.int .i64 a0_3) rfl; have hcz3_4 := bc_ BK221 4 (.bool a0_4) rfl; have hcz3_5 := bc_ BK221 5 (.slice A0_5 l0_5.length c0_5) rfl; have hfz3_0 := blk_frozen BK221.out 0; have hfz3_1 := blk_frozen BK221.out 1; have hfz3_2 := blk_frozen BK221.out 2; have hfz3_3 := blk_frozen BK221.out 3; have hfz3_4 := blk_frozen BK221.out 4; have hfz3_5 := blk_frozen BK221.out 5))
 go_loopg [3, 9] k (fun kq v3 v9 w' => ∃ (x3_1 : Int) (x9_1 : Int), v3 = .int .i64 x3_1 ∧ v9 = .int .i64 x9_1 ∧ Aside0 (impl_Buf_longest.l0 kq x3_1 l0_5 (l0_5.length : Int) x9_1 a0_0 a0_1 a0_2 a0_3 a0_4 l0_5 = some r) ∧ Aside0 (kq ≤ k) ∧ Aside0 (w'.heap[gb221]? = some (.cells #[.int .i64 a0_0, .int .i64 a0_1, .int .i64 a0_2, .int .i64 a0_3, .bool a0_4, (.slice A0_5 l0_5.length c0_5)] 47 (0, 0))) ∧ Aside0 (Below w.heap.size w w'))
 case atStart => exact ⟨((-1)), (0), (by first | rfl | (simp; done) | (simp [*]; done)), (by first | rfl | (simp; done) | (simp [*]; done)), H', ⟨Nat.le_refl _⟩, ⟨bk_ BK221⟩, ⟨bf_ HB⟩⟩
 case round =>
  clear H'
  (try clear c1); (try clear p2); (try clear hcz3_0 hcz3_1 hcz3_2 hcz3_3 hcz3_4 hcz3_5 hfz3_0 hfz3_1 hfz3_2 hfz3_3 hfz3_4 hfz3_5)
  obtain ⟨x3_1, x9_1, rfl, rfl, HA, HK1, BK221, HB⟩ := hrel
  cases gk with
  | zero => exact absurd HA.out (by simp [impl_Buf_longest.l0])
  | succ k1 =>
   have H := HA.out
   clear HA
   simp only [impl_Buf_longest.l0] at H
   by_cases c4 : x9_1 < (l0_5.length : Int)
   ·rw [if_pos c4] at H
    have c4b0 : decide (x9_1 < (l0_5.length : Int)) = true := decide_eq_true c4
    clear c4
    by_cases c5 : 0 ≤ x9_1
    ·rw [if_pos c5] at H
     have c5b0 : decide (0 ≤ x9_1) = true := decide_eq_true c5
     clear c5
     by_cases c6 : x9_1 < (l0_5.length : Int)
     ·rw [if_pos c6] at H
      have c6b0 : decide (x9_1 < (l0_5.length : Int)) = true := decide_eq_true c6
      clear c6
      by_cases c7 : x3_1 < 0
      ·rw [if_pos c7] at H
       have c7b0 : decide (x3_1 < 0) = true := decide_eq_true c7
       clear c7
       have H' := Aside0.mk H
       clear H
       have p222 : 0 ≤ (x9_1 : Int) := of_decide_eq_true (by first | (with_reducible assumption) | assumption)
       have q222 : x9_1 < (l0_5.length : Int) := of_decide_eq_true (by first | (with_reducible assumption) | assumption)
       obtain ⟨ad222, A222_1, c222_1, e222, hx222_0, hx222_1, hl222_1, hi222_1⟩ := at_T80 HR0_5.out x9_1 p222 q222
       cases e222
       replace hx222_0 := (HB.out.cell (World.block_lt_of_cell? w _ hx222_0)).trans hx222_0
       replace hx222_1 := (HB.out.cell (World.block_lt_of_cell? w _ hx222_1)).trans hx222_1
       have HR222_1 := Aside0.mk hi222_1
       have HC222_1 := Aside0.mk hl222_1
       clear hi222_1 hl222_1
       replace p222 := eq_true p222
       replace q222 := eq_true q222
       try go_wp2_with (first | ((with_reducible refine gate_dst (N := 5) rfl ?_); refine box_event ?hg (N := 5) ?hd (cs := #[.int .i64 0, .slice none 0 0]) (t := 80) ?hr ?_; (case hd => rfl); (case hg => rfl); (case hr => first | (go_simp; done) | (go_simp; rfl)); intro gb223 hg w8 hbox hb; have n0_ := bb_ BK221 hb; have n1_ := Aside0.mk (below_step (bf_ HB) hb); have n2_ := Aside0.mk (hbox); have n3_ := gw_ HB hg; have n4_ := gw_ HB hg; have n5_ := nl_ BK221 hg; have n6_ := ng_ BK221 hg; clear BK221; clear HB; have BK221 := n0_; have HB := n1_; have BK223 := n2_; have GW223 := n3_; have GE223 := n4_; have NB221_223 := n5_; have NB223_221 := n6_; clear n0_ n1_ n2_ n3_ n4_ n5_ n6_; clear hb hbox hg; have hnb9 := NB223_221.out; have hnc9 := NB221_223.out; have hcz10_0 := bc_ BK223 0 (.int .i64 0) rfl; have hcz10_1 := bc_ BK223 1 (.slice none 0 0) rfl; have hfz10_0 := blk_frozen BK223.out 0; have hfz10_1 := blk_frozen BK223.out 1))
       have n0_ : Aside0 (((w8.setCell ⟨gb223, 0, none⟩ (.int .i64 ((rd_T80 l0_5 x9_1).f0))).setCell ⟨gb223, 1, none⟩ (.slice A222_1 ((rd_T80 l0_5 x9_1).f1).length c222_1)).heap[gb221]? = some (.cells #[.int .i64 a0_0, .int .i64 a0_1, .int .i64 a0_2, .int .i64 a0_3, .bool a0_4, .slice (some ad222) l0_5.length c0_5] 47 (0, 0))) := ⟨by (with_reducible repeat (first | refine blk_drewN ?_ _ | refine blk_drew ?_ | refine blk_alloc ?_ _)); refine blk_far ?_ NB221_223.out _; (with_reducible repeat (first | refine blk_drewN ?_ _ | refine blk_drew ?_ | refine blk_alloc ?_ _)); refine blk_far ?_ NB221_223.out _; exact bk_ BK221⟩
       have n1_ : Aside0 (((w8.setCell ⟨gb223, 0, none⟩ (.int .i64 ((rd_T80 l0_5 x9_1).f0))).setCell ⟨gb223, 1, none⟩ (.slice A222_1 ((rd_T80 l0_5 x9_1).f1).length c222_1)).heap[gb223]? = some (.cells #[.int .i64 ((rd_T80 l0_5 x9_1).f0), .slice A222_1 ((rd_T80 l0_5 x9_1).f1).length c222_1] 80 (0, 0))) := ⟨by (with_reducible repeat (first | refine blk_drewN ?_ _ | refine blk_drew ?_ | refine blk_alloc ?_ _)); refine blk_put (cs := #[.int .i64 ((rd_T80 l0_5 x9_1).f0), .slice none 0 0]) ?_ 1 _ rfl; (with_reducible repeat (first | refine blk_drewN ?_ _ | refine blk_drew ?_ | refine blk_alloc ?_ _)); refine blk_put (cs := #[.int .i64 0, .slice none 0 0]) ?_ 0 _ rfl; exact bk_ BK223⟩
       have n2_ : Aside0 (Below w.heap.size w ((w8.setCell ⟨gb223, 0, none⟩ (.int .i64 ((rd_T80 l0_5 x9_1).f0))).setCell ⟨gb223, 1, none⟩ (.slice A222_1 ((rd_T80 l0_5 x9_1).f1).length c222_1))) := ⟨bf_ HB⟩
       (try clear BK221); (try clear BK223); (try clear HB)
       generalize ((w8.setCell ⟨gb223, 0, none⟩ (.int .i64 ((rd_T80 l0_5 x9_1).f0))).setCell ⟨gb223, 1, none⟩ (.slice A222_1 ((rd_T80 l0_5 x9_1).f1).length c222_1)) = w11 at n0_ n1_ n2_ ⊢
       have BK221 := n0_; have BK223 := n1_; have HB := n2_; clear n0_ n1_ n2_; have n0_ := Aside0.mk (blk_drew BK221.out); have n1_ := Aside0.mk (blk_drew BK223.out); have n2_ := Aside0.mk (below_drew1 HB.out); clear BK221; clear BK223; clear HB; have BK221 := n0_; have BK223 := n1_; have HB := n2_; clear n0_ n1_ n2_
       refine start_ (n := 13) (S := fun w' => True) (ds := []) (bs 13 0) (by kernel_rfl) rfl rfl trivial (fun hHeld => ?_); refine with_tabW impl_Buf_longest.tab5 impl_Buf_longest.bits5 (fun HT_ HW_ => ?_)
       generalize w11.drew = w12 at BK221 BK223 HB hHeld ⊢
       refine pure_s (i := 0) (N := some 14) (bs 13 1) (any_of HT_.out (by kernel_rfl)) (h := ?_)
       refine pure_s (i := 1) (N := some 15) (bs 13 2) (any_of HT_.out (by kernel_rfl)) (h := ?_)
       refine pure_s (i := 2) (N := some 16) (bs 13 3) (any_of HT_.out (by kernel_rfl)) (h := ?_)
       refine pure_u (i := 3) (N := some 17) (bs 13 4) (any_of HT_.out (by kernel_rfl)) (h := ?_)
       refine pure_u (i := 4) (N := some 18) (bs 13 5) (any_of HT_.out (by kernel_rfl)) (h := ?_)
       refine pure_u (i := 5) (N := some 19) (bs 13 6) (any_of HT_.out (by kernel_rfl)) (h := ?_)
       refine pure_u (i := 6) (N := some 20) (bs 13 7) (any_of HT_.out (by kernel_rfl)) (h := ?_)
       refine pure_u (i := 7) (N := some 21) (bs 13 8) (any_of HT_.out (by kernel_rfl)) (h := ?_)
       refine pure_u (i := 8) (N := some 22) (bs 13 9) (any_of HT_.out (by kernel_rfl)) (h := ?_)
       refine pure_u (i := 9) (N := some 23) (bs 13 10) (any_of HT_.out (by kernel_rfl)) (h := ?_)
       refine pure_u (i := 10) (N := some 24) (bs 13 11) (any_of HT_.out (by kernel_rfl)) (h := ?_)
       refine pure_u (i := 11) (N := some 25) (bs 13 12) (any_of HT_.out (by kernel_rfl)) (h := ?_)
       refine pure_s (i := 12) (N := some 26) (bs 13 13) (any_of HT_.out (by kernel_rfl)) (h := ?_)
       refine done_ (done_of HT_.out (by kernel_rfl)) ?_
       try go_wp2
       go_roundg k1
       case measure => have := HK1.out; omega
       case rel => exact ⟨(x9_1), (wrap64 (x9_1 + 1)), (by first | rfl | (simp; done) | (simp [*]; done)), (by first | rfl | (simp; done) | (simp [*]; done)), H', ⟨by have := HK1.out; omega⟩, ⟨bk_ BK221⟩, ⟨bf_ HB⟩⟩
      ·rw [if_neg c7] at H
       have c7b0 : decide (x3_1 < 0) = false := decide_eq_false c7
       clear c7
       replace H := Option.bind_eq_some_iff.mp H
       obtain ⟨t224, A130, H⟩ := H
       replace H : (if 0 ≤ x3_1 then (if x3_1 < (l0_5.length : Int) then ((impl_Lane_bytes.f k1 ((rd_T80 l0_5 x3_1).f0) ((rd_T80 l0_5 x3_1).f1)).bind fun t226 => (if t224 > t226 then (impl_Buf_longest.l0 k1 x9_1 l0_5 (l0_5.length : Int) (wrap64 (x9_1 + 1)) a0_0 a0_1 a0_2 a0_3 a0_4 l0_5) else (impl_Buf_longest.l0 k1 x3_1 l0_5 (l0_5.length : Int) (wrap64 (x9_1 + 1)) a0_0 a0_1 a0_2 a0_3 a0_4 l0_5))) else (none)) else (none)) = some r := H
       have A13 := Aside0.mk A130
       clear A130
       by_cases c14 : 0 ≤ x3_1
       ·rw [if_pos c14] at H
        have c14b0 : decide (0 ≤ x3_1) = true := decide_eq_true c14
        clear c14
        by_cases c15 : x3_1 < (l0_5.length : Int)
        ·rw [if_pos c15] at H
         have c15b0 : decide (x3_1 < (l0_5.length : Int)) = true := decide_eq_true c15
         clear c15
         replace H := Option.bind_eq_some_iff.mp H
         obtain ⟨t226, A160, H⟩ := H
         replace H : (if t224 > t226 then (impl_Buf_longest.l0 k1 x9_1 l0_5 (l0_5.length : Int) (wrap64 (x9_1 + 1)) a0_0 a0_1 a0_2 a0_3 a0_4 l0_5) else (impl_Buf_longest.l0 k1 x3_1 l0_5 (l0_5.length : Int) (wrap64 (x9_1 + 1)) a0_0 a0_1 a0_2 a0_3 a0_4 l0_5)) = some r := H
         have A16 := Aside0.mk A160
         clear A160
         by_cases c17 : t224 > t226
         ·rw [if_pos c17] at H
          have c17b0 : decide (t226 < t224) = true := decide_eq_true c17
          clear c17
          have H' := Aside0.mk H
          clear H
          have p222 : 0 ≤ (x9_1 : Int) := of_decide_eq_true (by first | (with_reducible assumption) | assumption)
          have q222 : x9_1 < (l0_5.length : Int) := of_decide_eq_true (by first | (with_reducible assumption) | assumption)
          obtain ⟨ad222, A222_1, c222_1, e222, hx222_0, hx222_1, hl222_1, hi222_1⟩ := at_T80 HR0_5.out x9_1 p222 q222
          cases e222
          replace hx222_0 := (HB.out.cell (World.block_lt_of_cell? w _ hx222_0)).trans hx222_0
          replace hx222_1 := (HB.out.cell (World.block_lt_of_cell? w _ hx222_1)).trans hx222_1
          have HR222_1 := Aside0.mk hi222_1
          have HC222_1 := Aside0.mk hl222_1
          clear hi222_1 hl222_1
          replace p222 := eq_true p222
          replace q222 := eq_true q222
          try go_wp2_with (first | ((with_reducible refine gate_dst (N := 5) rfl ?_); refine box_event ?hg (N := 5) ?hd (cs := #[.int .i64 0, .slice none 0 0]) (t := 80) ?hr ?_; (case hd => rfl); (case hg => rfl); (case hr => first | (go_simp; done) | (go_simp; rfl)); intro gb223 hg w18 hbox hb; have n0_ := bb_ BK221 hb; have n1_ := Aside0.mk (below_step (bf_ HB) hb); have n2_ := Aside0.mk (hbox); have n3_ := gw_ HB hg; have n4_ := gw_ HB hg; have n5_ := nl_ BK221 hg; have n6_ := ng_ BK221 hg; clear BK221; clear HB; have BK221 := n0_; have HB := n1_; have BK223 := n2_; have GW223 := n3_; have GE223 := n4_; have NB221_223 := n5_; have NB223_221 := n6_; clear n0_ n1_ n2_ n3_ n4_ n5_ n6_; clear hb hbox hg; have hnb19 := NB223_221.out; have hnc19 := NB221_223.out; have hcz20_0 := bc_ BK223 0 (.int .i64 0) rfl; have hcz20_1 := bc_ BK223 1 (.slice none 0 0) rfl; have hfz20_0 := blk_frozen BK223.out 0; have hfz20_1 := blk_frozen BK223.out 1))
          have n0_ : Aside0 (((w18.setCell ⟨gb223, 0, none⟩ (.int .i64 ((rd_T80 l0_5 x9_1).f0))).setCell ⟨gb223, 1, none⟩ (.slice A222_1 ((rd_T80 l0_5 x9_1).f1).length c222_1)).heap[gb221]? = some (.cells #[.int .i64 a0_0, .int .i64 a0_1, .int .i64 a0_2, .int .i64 a0_3, .bool a0_4, .slice (some ad222) l0_5.length c0_5] 47 (0, 0))) := ⟨by (with_reducible repeat (first | refine blk_drewN ?_ _ | refine blk_drew ?_ | refine blk_alloc ?_ _)); refine blk_far ?_ NB221_223.out _; (with_reducible repeat (first | refine blk_drewN ?_ _ | refine blk_drew ?_ | refine blk_alloc ?_ _)); refine blk_far ?_ NB221_223.out _; exact bk_ BK221⟩
          have n1_ : Aside0 (((w18.setCell ⟨gb223, 0, none⟩ (.int .i64 ((rd_T80 l0_5 x9_1).f0))).setCell ⟨gb223, 1, none⟩ (.slice A222_1 ((rd_T80 l0_5 x9_1).f1).length c222_1)).heap[gb223]? = some (.cells #[.int .i64 ((rd_T80 l0_5 x9_1).f0), .slice A222_1 ((rd_T80 l0_5 x9_1).f1).length c222_1] 80 (0, 0))) := ⟨by (with_reducible repeat (first | refine blk_drewN ?_ _ | refine blk_drew ?_ | refine blk_alloc ?_ _)); refine blk_put (cs := #[.int .i64 ((rd_T80 l0_5 x9_1).f0), .slice none 0 0]) ?_ 1 _ rfl; (with_reducible repeat (first | refine blk_drewN ?_ _ | refine blk_drew ?_ | refine blk_alloc ?_ _)); refine blk_put (cs := #[.int .i64 0, .slice none 0 0]) ?_ 0 _ rfl; exact bk_ BK223⟩
          have n2_ : Aside0 (Below w.heap.size w ((w18.setCell ⟨gb223, 0, none⟩ (.int .i64 ((rd_T80 l0_5 x9_1).f0))).setCell ⟨gb223, 1, none⟩ (.slice A222_1 ((rd_T80 l0_5 x9_1).f1).length c222_1))) := ⟨bf_ HB⟩
          (try clear BK221); (try clear BK223); (try clear HB)
          generalize ((w18.setCell ⟨gb223, 0, none⟩ (.int .i64 ((rd_T80 l0_5 x9_1).f0))).setCell ⟨gb223, 1, none⟩ (.slice A222_1 ((rd_T80 l0_5 x9_1).f1).length c222_1)) = w21 at n0_ n1_ n2_ ⊢
          have BK221 := n0_; have BK223 := n1_; have HB := n2_; clear n0_ n1_ n2_; have n0_ := Aside0.mk (blk_drew BK221.out); have n1_ := Aside0.mk (blk_drew BK223.out); have n2_ := Aside0.mk (below_drew1 HB.out); clear BK221; clear BK223; clear HB; have BK221 := n0_; have BK223 := n1_; have HB := n2_; clear n0_ n1_ n2_
          have p225 : 0 ≤ (x3_1 : Int) := of_decide_eq_true (by first | (with_reducible assumption) | assumption)
          have q225 : x3_1 < (l0_5.length : Int) := of_decide_eq_true (by first | (with_reducible assumption) | assumption)
          obtain ⟨ad225, A225_1, c225_1, e225, hx225_0, hx225_1, hl225_1, hi225_1⟩ := at_T80 HR0_5.out x3_1 p225 q225
          have hw225_1 := hx225_1; have hw225_0 := hx225_0
          obtain rfl : ad222 = ad225 := (by injection e225)
          replace hx225_0 := (HB.out.cell (World.block_lt_of_cell? w _ hx225_0)).trans hx225_0
          replace hx225_1 := (HB.out.cell (World.block_lt_of_cell? w _ hx225_1)).trans hx225_1
          have HR225_1 := Aside0.mk hi225_1
          have HC225_1 := Aside0.mk hl225_1
          clear hi225_1 hl225_1
          replace p225 := eq_true p225
          replace q225 := eq_true q225
          refine start_ (n := 13) (S := fun w' => w'.cell? ⟨gb223, 0, none⟩ = some (.int .i64 ((rd_T80 l0_5 x9_1).f0)) ∧ w'.cell? ⟨gb223, 1, none⟩ = some (.slice A222_1 ((rd_T80 l0_5 x9_1).f1).length c222_1) ∧ w'.cell? ⟨gb221, 0, none⟩ = some (.int .i64 a0_0) ∧ w'.cell? ⟨gb221, 1, none⟩ = some (.int .i64 a0_1) ∧ w'.cell? ⟨gb221, 2, none⟩ = some (.int .i64 a0_2) ∧ w'.cell? ⟨gb221, 3, none⟩ = some (.int .i64 a0_3) ∧ w'.cell? ⟨gb221, 4, none⟩ = some (.bool a0_4) ∧ w'.cell? ⟨gb221, 5, none⟩ = some (.slice (some ad222) l0_5.length c0_5) ∧ w'.cell? (ad222.add ((x3_1).toNat * 2)) = some (.int .i64 ((rd_T80 l0_5 x3_1).f0)) ∧ w'.cell? ⟨(ad222.add ((x3_1).toNat * 2)).block, (ad222.add ((x3_1).toNat * 2)).off + 1, none⟩ = some (.slice A225_1 ((rd_T80 l0_5 x3_1).f1).length c225_1)) (ds := []) (bs 13 0) (by kernel_rfl) rfl rfl ⟨bt_ BK223 0, bt_ BK223 1, bt_ BK221 0, bt_ BK221 1, bt_ BK221 2, bt_ BK221 3, bt_ BK221 4, bt_ BK221 5, ((HB.out.cell (World.block_lt_of_cell? w _ hw225_0)).trans hw225_0), ((HB.out.cell (World.block_lt_of_cell? w _ hw225_1)).trans hw225_1)⟩ (fun hHeld => ?_); refine with_tabW impl_Buf_longest.tab5 impl_Buf_longest.bits5 (fun HT_ HW_ => ?_)
          generalize w21.drew = w22 at BK221 BK223 HB HR225_1 hx225_0 hx225_1 hHeld ⊢
          refine pure_s (i := 0) (N := some 14) (bs 13 1) (any_of HT_.out (by kernel_rfl)) (h := ?_)
          refine pure_s (i := 1) (N := some 15) (bs 13 2) (any_of HT_.out (by kernel_rfl)) (h := ?_)
          refine pure_s (i := 2) (N := some 16) (bs 13 3) (any_of HT_.out (by kernel_rfl)) (h := ?_)
          refine pure_s (i := 5) (N := some 19) #[oT,oT,oT,oF,oF,oT,oF,oF,oF,oF,oF,oF,oF] (any_of HT_.out (by kernel_rfl)) (h := ?_)
          refine pure_s (i := 7) (N := some 21) #[oT,oT,oT,oF,oF,oT,oF,oT,oF,oF,oF,oF,oF] (any_of HT_.out (by kernel_rfl)) (h := ?_)
          refine take_ (i := 3) (N := some 17) (v := ?_) (a' := ?_) #[oT,oT,oT,oT,oF,oT,oF,oT,oF,oF,oF,oF,oF] rfl rfl (take_ofW HT_.out HW_.out (by kernel_rfl)) (fun _ _ _ h => h) (Or.inl ⟨by rfl, ?_⟩) hHeld ?_ ?_
          rotate_left
          ·rintro w' ⟨s0, s1, s2, s3, s4, s5, s6, s7, s8, s9⟩
           go_simp
           with_reducible rfl
          rotate_left
          ·simp only [Act.put, List.setIfInBounds_toArray, List.set_cons_zero, List.set_cons_succ, i64_w, i32_w]
           rfl
          refine take_ (i := 6) (N := some 20) (v := ?_) (a' := ?_) #[oT,oT,oT,oT,oF,oT,oT,oT,oF,oF,oF,oF,oF] rfl rfl (take_ofW HT_.out HW_.out (by kernel_rfl)) (fun _ _ _ h => h) (Or.inl ⟨by rfl, ?_⟩) hHeld ?_ ?_
          rotate_left
          ·rintro w' ⟨s0, s1, s2, s3, s4, s5, s6, s7, s8, s9⟩
           go_simp
           with_reducible rfl
          rotate_left
          ·simp only [Act.put, List.setIfInBounds_toArray, List.set_cons_zero, List.set_cons_succ, i64_w, i32_w]
           rfl
          refine pure_s (i := 8) (N := some 22) #[oT,oT,oT,oT,oF,oT,oT,oT,oT,oF,oF,oF,oF] (any_of HT_.out (by kernel_rfl)) (h := ?_)
          refine take_ (i := 9) (N := some 23) (v := ?_) (a' := ?_) #[oT,oT,oT,oT,oF,oT,oT,oT,oT,oT,oF,oF,oF] rfl rfl (take_ofW HT_.out HW_.out (by kernel_rfl)) (fun _ _ _ h => h) (Or.inl ⟨by rfl, ?_⟩) hHeld ?_ ?_
          rotate_left
          ·rintro w' ⟨s0, s1, s2, s3, s4, s5, s6, s7, s8, s9⟩
           go_simp
           with_reducible rfl
          rotate_left
          ·simp only [Act.put, List.setIfInBounds_toArray, List.set_cons_zero, List.set_cons_succ, i64_w, i32_w]
           rfl
          refine one_ (i := 4) (N := some 18) (bs 13 10) rfl rfl (one_of HT_.out (by kernel_rfl)) (by decide) (fun K hK => ?_)
          refine goes_ Try.func86 (by kernel_rfl) rfl #[.agg #[.int .i64 ((rd_T80 l0_5 x9_1).f0), .slice A222_1 ((rd_T80 l0_5 x9_1).f1).length c222_1]] (by rfl) rfl rfl mt_ ?_
          with_reducible refine (impl_Lane_bytes.calls k1 ((rd_T80 l0_5 x9_1).f0) _ _ ((rd_T80 l0_5 x9_1).f1) t224 _ ?side1 ?side2 A13.out).mono ?_
          (case side1 => repeat (first | exact (Kd.C_below HR222_1.out HB.out) | (with_reducible refine Kd.C_alloc ?_ _) | (with_reducible refine Kd.C_drewN ?_ _) | (with_reducible refine Kd.C_drew ?_)))
          (case side2 => exact HC222_1.out)
          rintro e w23 ⟨rfl, hb⟩
          refine ⟨_, rfl, ?_⟩
          have n0_ := bb_ BK221 hb; have n1_ := bb_ BK223 hb; have n2_ := Aside0.mk (below_step (bf_ HB) hb); clear BK221; clear BK223; clear HB; have BK221 := n0_; have BK223 := n1_; have HB := n2_; clear n0_ n1_ n2_; (try clear hb); (try clear hb2); (try clear hk); (try clear hi)
          refine hK.out _ _ ⟨bt_ BK223 0, bt_ BK223 1, bt_ BK221 0, bt_ BK221 1, bt_ BK221 2, bt_ BK221 3, bt_ BK221 4, bt_ BK221 5, ((HB.out.cell (World.block_lt_of_cell? w _ hw225_0)).trans hw225_0), ((HB.out.cell (World.block_lt_of_cell? w _ hw225_1)).trans hw225_1)⟩ (fun hHeld => ?_)
          clear hK K
          refine norm_ (a' := ?_) ?_ ?_
          rotate_left
          ·show Act.put _ (some 18) _ = _
           simp only [Act.put, List.setIfInBounds_toArray, List.set_cons_zero, List.set_cons_succ, i64_w, i32_w]
           rfl
          refine one_ (i := 10) (N := some 24) (bs 13 11) rfl rfl (one_of HT_.out (by kernel_rfl)) (by decide) (fun K hK => ?_)
          refine goes_ Try.func86 (by kernel_rfl) rfl #[.agg #[.int .i64 ((rd_T80 l0_5 x3_1).f0), .slice A225_1 ((rd_T80 l0_5 x3_1).f1).length c225_1]] (by rfl) rfl rfl mt_ ?_
          with_reducible refine (impl_Lane_bytes.calls k1 ((rd_T80 l0_5 x3_1).f0) _ _ ((rd_T80 l0_5 x3_1).f1) t226 _ ?side1 ?side2 A16.out).mono ?_
          (case side1 => repeat (first | exact (Kd.C_below HR225_1.out HB.out) | (with_reducible refine Kd.C_alloc ?_ _) | (with_reducible refine Kd.C_drewN ?_ _) | (with_reducible refine Kd.C_drew ?_)))
          (case side2 => exact HC225_1.out)
          rintro e w24 ⟨rfl, hb⟩
          refine ⟨_, rfl, ?_⟩
          have n0_ := bb_ BK221 hb; have n1_ := bb_ BK223 hb; have n2_ := Aside0.mk (below_step (bf_ HB) hb); clear BK221; clear BK223; clear HB; have BK221 := n0_; have BK223 := n1_; have HB := n2_; clear n0_ n1_ n2_; (try clear hb); (try clear hb2); (try clear hk); (try clear hi)
          refine hK.out _ _ ⟨bt_ BK223 0, bt_ BK223 1, bt_ BK221 0, bt_ BK221 1, bt_ BK221 2, bt_ BK221 3, bt_ BK221 4, bt_ BK221 5, ((HB.out.cell (World.block_lt_of_cell? w _ hw225_0)).trans hw225_0), ((HB.out.cell (World.block_lt_of_cell? w _ hw225_1)).trans hw225_1)⟩ (fun hHeld => ?_)
          clear hK K
          refine norm_ (a' := ?_) ?_ ?_
          rotate_left
          ·show Act.put _ (some 24) _ = _
           simp only [Act.put, List.setIfInBounds_toArray, List.set_cons_zero, List.set_cons_succ, i64_w, i32_w]
           rfl
          refine pure_s (i := 11) (N := some 25) (bs 13 12) (any_of HT_.out (by kernel_rfl)) (h := ?_)
          refine pure_s (i := 12) (N := some 26) (bs 13 13) (any_of HT_.out (by kernel_rfl)) (h := ?_)
          refine done_ (done_of HT_.out (by kernel_rfl)) ?_
          try go_wp2
          go_roundg k1
          case measure => have := HK1.out; omega
          case rel => exact ⟨(x9_1), (wrap64 (x9_1 + 1)), (by first | rfl | (simp; done) | (simp [*]; done)), (by first | rfl | (simp; done) | (simp [*]; done)), H', ⟨by have := HK1.out; omega⟩, ⟨bk_ BK221⟩, ⟨bf_ HB⟩⟩
         ·rw [if_neg c17] at H
          have c17b0 : decide (t226 < t224) = false := decide_eq_false c17
          clear c17
          have H' := Aside0.mk H
          clear H
          have p222 : 0 ≤ (x9_1 : Int) := of_decide_eq_true (by first | (with_reducible assumption) | assumption)
          have q222 : x9_1 < (l0_5.length : Int) := of_decide_eq_true (by first | (with_reducible assumption) | assumption)
          obtain ⟨ad222, A222_1, c222_1, e222, hx222_0, hx222_1, hl222_1, hi222_1⟩ := at_T80 HR0_5.out x9_1 p222 q222
          cases e222
          replace hx222_0 := (HB.out.cell (World.block_lt_of_cell? w _ hx222_0)).trans hx222_0
          replace hx222_1 := (HB.out.cell (World.block_lt_of_cell? w _ hx222_1)).trans hx222_1
          have HR222_1 := Aside0.mk hi222_1
          have HC222_1 := Aside0.mk hl222_1
          clear hi222_1 hl222_1
          replace p222 := eq_true p222
          replace q222 := eq_true q222
          try go_wp2_with (first | ((with_reducible refine gate_dst (N := 5) rfl ?_); refine box_event ?hg (N := 5) ?hd (cs := #[.int .i64 0, .slice none 0 0]) (t := 80) ?hr ?_; (case hd => rfl); (case hg => rfl); (case hr => first | (go_simp; done) | (go_simp; rfl)); intro gb223 hg w25 hbox hb; have n0_ := bb_ BK221 hb; have n1_ := Aside0.mk (below_step (bf_ HB) hb); have n2_ := Aside0.mk (hbox); have n3_ := gw_ HB hg; have n4_ := gw_ HB hg; have n5_ := nl_ BK221 hg; have n6_ := ng_ BK221 hg; clear BK221; clear HB; have BK221 := n0_; have HB := n1_; have BK223 := n2_; have GW223 := n3_; have GE223 := n4_; have NB221_223 := n5_; have NB223_221 := n6_; clear n0_ n1_ n2_ n3_ n4_ n5_ n6_; clear hb hbox hg; have hnb26 := NB223_221.out; have hnc26 := NB221_223.out; have hcz27_0 := bc_ BK223 0 (.int .i64 0) rfl; have hcz27_1 := bc_ BK223 1 (.slice none 0 0) rfl; have hfz27_0 := blk_frozen BK223.out 0; have hfz27_1 := blk_frozen BK223.out 1))
          have n0_ : Aside0 (((w25.setCell ⟨gb223, 0, none⟩ (.int .i64 ((rd_T80 l0_5 x9_1).f0))).setCell ⟨gb223, 1, none⟩ (.slice A222_1 ((rd_T80 l0_5 x9_1).f1).length c222_1)).heap[gb221]? = some (.cells #[.int .i64 a0_0, .int .i64 a0_1, .int .i64 a0_2, .int .i64 a0_3, .bool a0_4, .slice (some ad222) l0_5.length c0_5] 47 (0, 0))) := ⟨by (with_reducible repeat (first | refine blk_drewN ?_ _ | refine blk_drew ?_ | refine blk_alloc ?_ _)); refine blk_far ?_ NB221_223.out _; (with_reducible repeat (first | refine blk_drewN ?_ _ | refine blk_drew ?_ | refine blk_alloc ?_ _)); refine blk_far ?_ NB221_223.out _; exact bk_ BK221⟩
          have n1_ : Aside0 (((w25.setCell ⟨gb223, 0, none⟩ (.int .i64 ((rd_T80 l0_5 x9_1).f0))).setCell ⟨gb223, 1, none⟩ (.slice A222_1 ((rd_T80 l0_5 x9_1).f1).length c222_1)).heap[gb223]? = some (.cells #[.int .i64 ((rd_T80 l0_5 x9_1).f0), .slice A222_1 ((rd_T80 l0_5 x9_1).f1).length c222_1] 80 (0, 0))) := ⟨by (with_reducible repeat (first | refine blk_drewN ?_ _ | refine blk_drew ?_ | refine blk_alloc ?_ _)); refine blk_put (cs := #[.int .i64 ((rd_T80 l0_5 x9_1).f0), .slice none 0 0]) ?_ 1 _ rfl; (with_reducible repeat (first | refine blk_drewN ?_ _ | refine blk_drew ?_ | refine blk_alloc ?_ _)); refine blk_put (cs := #[.int .i64 0, .slice none 0 0]) ?_ 0 _ rfl; exact bk_ BK223⟩
          have n2_ : Aside0 (Below w.heap.size w ((w25.setCell ⟨gb223, 0, none⟩ (.int .i64 ((rd_T80 l0_5 x9_1).f0))).setCell ⟨gb223, 1, none⟩ (.slice A222_1 ((rd_T80 l0_5 x9_1).f1).length c222_1))) := ⟨bf_ HB⟩
          (try clear BK221); (try clear BK223); (try clear HB)
          generalize ((w25.setCell ⟨gb223, 0, none⟩ (.int .i64 ((rd_T80 l0_5 x9_1).f0))).setCell ⟨gb223, 1, none⟩ (.slice A222_1 ((rd_T80 l0_5 x9_1).f1).length c222_1)) = w28 at n0_ n1_ n2_ ⊢
          have BK221 := n0_; have BK223 := n1_; have HB := n2_; clear n0_ n1_ n2_; have n0_ := Aside0.mk (blk_drew BK221.out); have n1_ := Aside0.mk (blk_drew BK223.out); have n2_ := Aside0.mk (below_drew1 HB.out); clear BK221; clear BK223; clear HB; have BK221 := n0_; have BK223 := n1_; have HB := n2_; clear n0_ n1_ n2_
          have p225 : 0 ≤ (x3_1 : Int) := of_decide_eq_true (by first | (with_reducible assumption) | assumption)
          have q225 : x3_1 < (l0_5.length : Int) := of_decide_eq_true (by first | (with_reducible assumption) | assumption)
          obtain ⟨ad225, A225_1, c225_1, e225, hx225_0, hx225_1, hl225_1, hi225_1⟩ := at_T80 HR0_5.out x3_1 p225 q225
          have hw225_1 := hx225_1; have hw225_0 := hx225_0
          obtain rfl : ad222 = ad225 := (by injection e225)
          replace hx225_0 := (HB.out.cell (World.block_lt_of_cell? w _ hx225_0)).trans hx225_0
          replace hx225_1 := (HB.out.cell (World.block_lt_of_cell? w _ hx225_1)).trans hx225_1
          have HR225_1 := Aside0.mk hi225_1
          have HC225_1 := Aside0.mk hl225_1
          clear hi225_1 hl225_1
          replace p225 := eq_true p225
          replace q225 := eq_true q225
          refine start_ (n := 13) (S := fun w' => w'.cell? ⟨gb223, 0, none⟩ = some (.int .i64 ((rd_T80 l0_5 x9_1).f0)) ∧ w'.cell? ⟨gb223, 1, none⟩ = some (.slice A222_1 ((rd_T80 l0_5 x9_1).f1).length c222_1) ∧ w'.cell? ⟨gb221, 0, none⟩ = some (.int .i64 a0_0) ∧ w'.cell? ⟨gb221, 1, none⟩ = some (.int .i64 a0_1) ∧ w'.cell? ⟨gb221, 2, none⟩ = some (.int .i64 a0_2) ∧ w'.cell? ⟨gb221, 3, none⟩ = some (.int .i64 a0_3) ∧ w'.cell? ⟨gb221, 4, none⟩ = some (.bool a0_4) ∧ w'.cell? ⟨gb221, 5, none⟩ = some (.slice (some ad222) l0_5.length c0_5) ∧ w'.cell? (ad222.add ((x3_1).toNat * 2)) = some (.int .i64 ((rd_T80 l0_5 x3_1).f0)) ∧ w'.cell? ⟨(ad222.add ((x3_1).toNat * 2)).block, (ad222.add ((x3_1).toNat * 2)).off + 1, none⟩ = some (.slice A225_1 ((rd_T80 l0_5 x3_1).f1).length c225_1)) (ds := []) (bs 13 0) (by kernel_rfl) rfl rfl ⟨bt_ BK223 0, bt_ BK223 1, bt_ BK221 0, bt_ BK221 1, bt_ BK221 2, bt_ BK221 3, bt_ BK221 4, bt_ BK221 5, ((HB.out.cell (World.block_lt_of_cell? w _ hw225_0)).trans hw225_0), ((HB.out.cell (World.block_lt_of_cell? w _ hw225_1)).trans hw225_1)⟩ (fun hHeld => ?_); refine with_tabW impl_Buf_longest.tab5 impl_Buf_longest.bits5 (fun HT_ HW_ => ?_)
          generalize w28.drew = w29 at BK221 BK223 HB HR225_1 hx225_0 hx225_1 hHeld ⊢
          refine pure_s (i := 0) (N := some 14) (bs 13 1) (any_of HT_.out (by kernel_rfl)) (h := ?_)
          refine pure_s (i := 1) (N := some 15) (bs 13 2) (any_of HT_.out (by kernel_rfl)) (h := ?_)
          refine pure_s (i := 2) (N := some 16) (bs 13 3) (any_of HT_.out (by kernel_rfl)) (h := ?_)
          refine pure_s (i := 5) (N := some 19) #[oT,oT,oT,oF,oF,oT,oF,oF,oF,oF,oF,oF,oF] (any_of HT_.out (by kernel_rfl)) (h := ?_)
          refine pure_s (i := 7) (N := some 21) #[oT,oT,oT,oF,oF,oT,oF,oT,oF,oF,oF,oF,oF] (any_of HT_.out (by kernel_rfl)) (h := ?_)
          refine take_ (i := 3) (N := some 17) (v := ?_) (a' := ?_) #[oT,oT,oT,oT,oF,oT,oF,oT,oF,oF,oF,oF,oF] rfl rfl (take_ofW HT_.out HW_.out (by kernel_rfl)) (fun _ _ _ h => h) (Or.inl ⟨by rfl, ?_⟩) hHeld ?_ ?_
          rotate_left
          ·rintro w' ⟨s0, s1, s2, s3, s4, s5, s6, s7, s8, s9⟩
           go_simp
           with_reducible rfl
          rotate_left
          ·simp only [Act.put, List.setIfInBounds_toArray, List.set_cons_zero, List.set_cons_succ, i64_w, i32_w]
           rfl
          refine take_ (i := 6) (N := some 20) (v := ?_) (a' := ?_) #[oT,oT,oT,oT,oF,oT,oT,oT,oF,oF,oF,oF,oF] rfl rfl (take_ofW HT_.out HW_.out (by kernel_rfl)) (fun _ _ _ h => h) (Or.inl ⟨by rfl, ?_⟩) hHeld ?_ ?_
          rotate_left
          ·rintro w' ⟨s0, s1, s2, s3, s4, s5, s6, s7, s8, s9⟩
           go_simp
           with_reducible rfl
          rotate_left
          ·simp only [Act.put, List.setIfInBounds_toArray, List.set_cons_zero, List.set_cons_succ, i64_w, i32_w]
           rfl
          refine pure_s (i := 8) (N := some 22) #[oT,oT,oT,oT,oF,oT,oT,oT,oT,oF,oF,oF,oF] (any_of HT_.out (by kernel_rfl)) (h := ?_)
          refine take_ (i := 9) (N := some 23) (v := ?_) (a' := ?_) #[oT,oT,oT,oT,oF,oT,oT,oT,oT,oT,oF,oF,oF] rfl rfl (take_ofW HT_.out HW_.out (by kernel_rfl)) (fun _ _ _ h => h) (Or.inl ⟨by rfl, ?_⟩) hHeld ?_ ?_
          rotate_left
          ·rintro w' ⟨s0, s1, s2, s3, s4, s5, s6, s7, s8, s9⟩
           go_simp
           with_reducible rfl
          rotate_left
          ·simp only [Act.put, List.setIfInBounds_toArray, List.set_cons_zero, List.set_cons_succ, i64_w, i32_w]
           rfl
          refine one_ (i := 4) (N := some 18) (bs 13 10) rfl rfl (one_of HT_.out (by kernel_rfl)) (by decide) (fun K hK => ?_)
          refine goes_ Try.func86 (by kernel_rfl) rfl #[.agg #[.int .i64 ((rd_T80 l0_5 x9_1).f0), .slice A222_1 ((rd_T80 l0_5 x9_1).f1).length c222_1]] (by rfl) rfl rfl mt_ ?_
          with_reducible refine (impl_Lane_bytes.calls k1 ((rd_T80 l0_5 x9_1).f0) _ _ ((rd_T80 l0_5 x9_1).f1) t224 _ ?side1 ?side2 A13.out).mono ?_
          (case side1 => repeat (first | exact (Kd.C_below HR222_1.out HB.out) | (with_reducible refine Kd.C_alloc ?_ _) | (with_reducible refine Kd.C_drewN ?_ _) | (with_reducible refine Kd.C_drew ?_)))
          (case side2 => exact HC222_1.out)
          rintro e w30 ⟨rfl, hb⟩
          refine ⟨_, rfl, ?_⟩
          have n0_ := bb_ BK221 hb; have n1_ := bb_ BK223 hb; have n2_ := Aside0.mk (below_step (bf_ HB) hb); clear BK221; clear BK223; clear HB; have BK221 := n0_; have BK223 := n1_; have HB := n2_; clear n0_ n1_ n2_; (try clear hb); (try clear hb2); (try clear hk); (try clear hi)
          refine hK.out _ _ ⟨bt_ BK223 0, bt_ BK223 1, bt_ BK221 0, bt_ BK221 1, bt_ BK221 2, bt_ BK221 3, bt_ BK221 4, bt_ BK221 5, ((HB.out.cell (World.block_lt_of_cell? w _ hw225_0)).trans hw225_0), ((HB.out.cell (World.block_lt_of_cell? w _ hw225_1)).trans hw225_1)⟩ (fun hHeld => ?_)
          clear hK K
          refine norm_ (a' := ?_) ?_ ?_
          rotate_left
          ·show Act.put _ (some 18) _ = _
           simp only [Act.put, List.setIfInBounds_toArray, List.set_cons_zero, List.set_cons_succ, i64_w, i32_w]
           rfl
          refine one_ (i := 10) (N := some 24) (bs 13 11) rfl rfl (one_of HT_.out (by kernel_rfl)) (by decide) (fun K hK => ?_)
          refine goes_ Try.func86 (by kernel_rfl) rfl #[.agg #[.int .i64 ((rd_T80 l0_5 x3_1).f0), .slice A225_1 ((rd_T80 l0_5 x3_1).f1).length c225_1]] (by rfl) rfl rfl mt_ ?_
          with_reducible refine (impl_Lane_bytes.calls k1 ((rd_T80 l0_5 x3_1).f0) _ _ ((rd_T80 l0_5 x3_1).f1) t226 _ ?side1 ?side2 A16.out).mono ?_
          (case side1 => repeat (first | exact (Kd.C_below HR225_1.out HB.out) | (with_reducible refine Kd.C_alloc ?_ _) | (with_reducible refine Kd.C_drewN ?_ _) | (with_reducible refine Kd.C_drew ?_)))
          (case side2 => exact HC225_1.out)
          rintro e w31 ⟨rfl, hb⟩
          refine ⟨_, rfl, ?_⟩
          have n0_ := bb_ BK221 hb; have n1_ := bb_ BK223 hb; have n2_ := Aside0.mk (below_step (bf_ HB) hb); clear BK221; clear BK223; clear HB; have BK221 := n0_; have BK223 := n1_; have HB := n2_; clear n0_ n1_ n2_; (try clear hb); (try clear hb2); (try clear hk); (try clear hi)
          refine hK.out _ _ ⟨bt_ BK223 0, bt_ BK223 1, bt_ BK221 0, bt_ BK221 1, bt_ BK221 2, bt_ BK221 3, bt_ BK221 4, bt_ BK221 5, ((HB.out.cell (World.block_lt_of_cell? w _ hw225_0)).trans hw225_0), ((HB.out.cell (World.block_lt_of_cell? w _ hw225_1)).trans hw225_1)⟩ (fun hHeld => ?_)
          clear hK K
          refine norm_ (a' := ?_) ?_ ?_
          rotate_left
          ·show Act.put _ (some 24) _ = _
           simp only [Act.put, List.setIfInBounds_toArray, List.set_cons_zero, List.set_cons_succ, i64_w, i32_w]
           rfl
          refine pure_s (i := 11) (N := some 25) (bs 13 12) (any_of HT_.out (by kernel_rfl)) (h := ?_)
          refine pure_s (i := 12) (N := some 26) (bs 13 13) (any_of HT_.out (by kernel_rfl)) (h := ?_)
          refine done_ (done_of HT_.out (by kernel_rfl)) ?_
          try go_wp2
          go_roundg k1
          case measure => have := HK1.out; omega
          case rel => exact ⟨(x3_1), (wrap64 (x9_1 + 1)), (by first | rfl | (simp; done) | (simp [*]; done)), (by first | rfl | (simp; done) | (simp [*]; done)), H', ⟨by have := HK1.out; omega⟩, ⟨bk_ BK221⟩, ⟨bf_ HB⟩⟩
        ·rw [if_neg c15] at H
         exact absurd H (by simp)
       ·rw [if_neg c14] at H
        exact absurd H (by simp)
     ·rw [if_neg c6] at H
      exact absurd H (by simp)
    ·rw [if_neg c5] at H
     exact absurd H (by simp)
   ·rw [if_neg c4] at H
    have c4b0 : decide (x9_1 < (l0_5.length : Int)) = false := decide_eq_false c4
    clear c4
    obtain rfl := Option.some.inj H
    go_wp2
    go_ret
    exact ⟨by first | rfl | (simp [errW_none, errW_some] <;> rfl) | (simp [*, errW_none, errW_some] <;> rfl), bf_ HB⟩

/-! ### impl_BufLongest: function 52 -/
def impl_BufLongest.f (k : Nat) (a0_0 : Int) (a0_1 : Int) (a0_2 : Int) (a0_3 : Int) (a0_4 : Bool) (l0_5 : List (S80)) : Option (Int) := (impl_BufOk.f k a0_0 a0_1 a0_2 a0_3 a0_4 l0_5).bind fun t228 => (if t228 = true then (if (l0_5.length : Int) = 0 then (some (-1)) else ((impl_Buf_longest.f k a0_0 a0_1 a0_2 a0_3 a0_4 l0_5).bind fun t229 => (if 0 ≤ t229 then (if t229 < (l0_5.length : Int) then (some ((rd_T80 l0_5 t229).f0)) else (none)) else (none)))) else (some (-1)))
theorem impl_BufLongest.mono : ∀ a0 a1 a2 a3 a4 a5 k, LeO (impl_BufLongest.f k a0 a1 a2 a3 a4 a5) (impl_BufLongest.f (k + 1) a0 a1 a2 a3 a4 a5) := by
 intro a0 a1 a2 a3 a4 a5 k
 unfold impl_BufLongest.f
 repeat' first
   | (with_reducible exact impl_BufOk.mono _ _ _ _ _ _ _)
   | (with_reducible exact impl_Buf_longest.mono _ _ _ _ _ _ _)
   | (with_reducible exact LeO.refl _)
   | (with_reducible exact LeO.none _)
   | (with_reducible refine LeO.ite ?_ ?_)
   | (with_reducible refine LeO.bind ?_ (fun _ => ?_))
   | exact impl_BufOk.mono _ _ _ _ _ _ _
   | exact impl_Buf_longest.mono _ _ _ _ _ _ _
   | exact LeO.none _
   | refine LeO.ite ?_ ?_
   | refine LeO.bind ?_ (fun _ => ?_)
def impl_BufLongest.T3 : Bool × List (List Nat × List Nat) := (true, [([], []), ([0], [0]), ([], []), ([2], [2]), ([1, 3], [1, 3]), ([4], [4]), ([5], [5]), ([6, 3, 0, 1, 2, 3, 4, 5, 6], [6])])
def impl_BufLongest.B3 : List Nat := [0, 1, 0, 4, 15, 31, 63, 127]
theorem impl_BufLongest.tab3 : rtab .any (opsOf Try.f52 3) = impl_BufLongest.T3 := by kernel_rfl
theorem impl_BufLongest.bits3 : waitsOk impl_BufLongest.T3.2 impl_BufLongest.B3 = true := by kernel_rfl
set_option maxHeartbeats 8000000 in
set_option maxRecDepth 100000 in
theorem impl_BufLongest.calls (k : Nat) (a0_0 : Int) (a0_1 : Int) (a0_2 : Int) (a0_3 : Int) (a0_4 : Bool) (A0_5 : Option Addr) (c0_5 : Nat) (l0_5 : List (S80)) (r : Int) (w : World) (hr0_5 : Kd.C k80 w A0_5 l0_5.length l0_5) (hc0_5 : l0_5.length ≤ c0_5) (h : impl_BufLongest.f k a0_0 a0_1 a0_2 a0_3 a0_4 l0_5 = some r) :
  Calls Try.prog 52 #[.agg #[.int .i64 a0_0, .int .i64 a0_1, .int .i64 a0_2, .int .i64 a0_3, .bool a0_4, .slice A0_5 l0_5.length c0_5]] w fun e w' => e = .returned (.int .i64 r) ∧ Below w.heap.size w w' := by
 have hu47 := Try.underlying47
 have HR0_5 := Aside0.mk hr0_5
 have HC0_5 := Aside0.mk hc0_5
 clear hr0_5 hc0_5; have HB := Aside0.mk (Below.refl w.heap.size w)
 have H : ((impl_BufOk.f k a0_0 a0_1 a0_2 a0_3 a0_4 l0_5).bind fun t228 => (if t228 = true then (if (l0_5.length : Int) = 0 then (some (-1)) else ((impl_Buf_longest.f k a0_0 a0_1 a0_2 a0_3 a0_4 l0_5).bind fun t229 => (if 0 ≤ t229 then (if t229 < (l0_5.length : Int) then (some ((rd_T80 l0_5 t229).f0)) else (none)) else (none)))) else (some (-1)))) = some r := h
 clear h
 replace H := Option.bind_eq_some_iff.mp H
 obtain ⟨t228, A20, H⟩ := H
 replace H : (if t228 = true then (if (l0_5.length : Int) = 0 then (some (-1)) else ((impl_Buf_longest.f k a0_0 a0_1 a0_2 a0_3 a0_4 l0_5).bind fun t229 => (if 0 ≤ t229 then (if t229 < (l0_5.length : Int) then (some ((rd_T80 l0_5 t229).f0)) else (none)) else (none)))) else (some (-1))) = some r := H
 have A2 := Aside0.mk A20
 clear A20
 by_cases c3 : t228 = true
 ·subst c3
  have H1 : (if (l0_5.length : Int) = 0 then (some (-1)) else ((impl_Buf_longest.f k a0_0 a0_1 a0_2 a0_3 a0_4 l0_5).bind fun t229 => (if 0 ≤ t229 then (if t229 < (l0_5.length : Int) then (some ((rd_T80 l0_5 t229).f0)) else (none)) else (none)))) = some r := by rw [if_pos rfl] at H; exact H
  clear H
  have H := H1
  clear H1
  by_cases c4 : (l0_5.length : Int) = 0
  ·rw [if_pos c4] at H
   have c4b0 : ((l0_5.length : Int) == 0) = true := beq_iff_eq.mpr c4
   have c4b1 : ((l0_5.length : Int) != 0) = false := bne_eq_false_iff_eq.mpr c4
   clear c4
   obtain rfl := Option.some.inj H
   go_enter Try.func52, Try.ntmps52
   go_wp2_with (first | ((with_reducible refine gate_dst (N := 1) rfl ?_); (try (refine gate_guard (by rfl) ?_; dsimp only)); refine box_event ?hg (N := 1) ?hd (cs := #[.int .i64 a0_0, .int .i64 a0_1, .int .i64 a0_2, .int .i64 a0_3, .bool a0_4, .slice A0_5 l0_5.length c0_5]) (t := 47) ?hr ?_; (case hd => rfl); (case hg => rfl); (case hr => first | (go_simp; done) | (go_simp; rfl)); intro gb227 hg w5 hbox hb; have n0_ := Aside0.mk (below_step (be_ HB) hb); have n1_ := Aside0.mk (hbox); have n2_ := gw_ HB hg; have n3_ := gw_ HB hg; clear HB; have HB := n0_; have BK227 := n1_; have GW227 := n2_; have GE227 := n3_; clear n0_ n1_ n2_ n3_; clear hb hbox hg; have hcz6_0 := bc_ BK227 0 (.int .i64 a0_0) rfl; have hcz6_1 := bc_ BK227 1 (.int .i64 a0_1) rfl; have hcz6_2 := bc_ BK227 2 (.int .i64 a0_2) rfl; have hcz6_3 := bc_ BK227 3 (.int .i64 a0_3) rfl; have hcz6_4 := bc_ BK227 4 (.bool a0_4) rfl; have hcz6_5 := bc_ BK227 5 (.slice A0_5 l0_5.length c0_5) rfl; have hfz6_0 := blk_frozen BK227.out 0; have hfz6_1 := blk_frozen BK227.out 1; have hfz6_2 := blk_frozen BK227.out 2; have hfz6_3 := blk_frozen BK227.out 3; have hfz6_4 := blk_frozen BK227.out 4; have hfz6_5 := blk_frozen BK227.out 5) | ((with_reducible refine gate_callee (f := 48) rfl ?_); refine goesL_ (some 4) rfl rfl Try.func48 (by kernel_rfl) rfl #[.agg #[.int .i64 a0_0, .int .i64 a0_1, .int .i64 a0_2, .int .i64 a0_3, .bool a0_4, .slice A0_5 l0_5.length c0_5]] rfl mt_ ?_; (with_reducible refine (impl_BufOk.calls k a0_0 a0_1 a0_2 a0_3 a0_4 _ _ l0_5 true _ ?side1 ?side2 A2.out).mono ?_); (case side1 => repeat (first | exact (Kd.C_below HR0_5.out HB.out) | (with_reducible refine Kd.C_alloc ?_ _) | (with_reducible refine Kd.C_drewN ?_ _) | (with_reducible refine Kd.C_drew ?_))); (case side2 => exact HC0_5.out); rintro e w7 ⟨rfl, hb⟩; refine ⟨_, rfl, ?_⟩; have n0_ := bb_ BK227 hb; have n1_ := Aside0.mk (below_step (bf_ HB) hb); clear BK227; clear HB; have BK227 := n0_; have HB := n1_; clear n0_ n1_; (try clear hb); (try clear hb2); (try clear hk); (try clear hi); have hcz8_0 := bc_ BK227 0 (.int .i64 a0_0) rfl; have hcz8_1 := bc_ BK227 1 (.int .i64 a0_1) rfl; have hcz8_2 := bc_ BK227 2 (.int .i64 a0_2) rfl; have hcz8_3 := bc_ BK227 3 (.int .i64 a0_3) rfl; have hcz8_4 := bc_ BK227 4 (.bool a0_4) rfl; have hcz8_5 := bc_ BK227 5 (.slice A0_5 l0_5.length c0_5) rfl; have hfz8_0 := blk_frozen BK227.out 0; have hfz8_1 := blk_frozen BK227.out 1; have hfz8_2 := blk_frozen BK227.out 2; have hfz8_3 := blk_frozen BK227.out 3; have hfz8_4 := blk_frozen BK227.out 4; have hfz8_5 := blk_frozen BK227.out 5))
   go_ret
   exact ⟨by first | rfl | (simp [errW_none, errW_some] <;> rfl) | (simp [*, errW_none, errW_some] <;> rfl), bf_ HB⟩
  ·rw [if_neg c4] at H
   have c4b0 : ((l0_5.length : Int) == 0) = false := beq_eq_false_iff_ne.mpr c4
   have c4b1 : ((l0_5.length : Int) != 0) = true := bne_iff_ne.mpr c4
   have c4b2 : ¬ (l0_5 = []) := fun h_ => c4 (by rw [h_]; rfl)
   replace H := Option.bind_eq_some_iff.mp H
   obtain ⟨t229, A90, H⟩ := H
   replace H : (if 0 ≤ t229 then (if t229 < (l0_5.length : Int) then (some ((rd_T80 l0_5 t229).f0)) else (none)) else (none)) = some r := H
   have A9 := Aside0.mk A90
   clear A90
   by_cases c10 : 0 ≤ t229
   ·rw [if_pos c10] at H
    have c10b0 : decide (0 ≤ t229) = true := decide_eq_true c10
    clear c10
    by_cases c11 : t229 < (l0_5.length : Int)
    ·rw [if_pos c11] at H
     have c11b0 : decide (t229 < (l0_5.length : Int)) = true := decide_eq_true c11
     clear c11
     obtain rfl := Option.some.inj H
     go_enter Try.func52, Try.ntmps52
     try go_wp2_with (first | ((with_reducible refine gate_dst (N := 1) rfl ?_); (try (refine gate_guard (by rfl) ?_; dsimp only)); refine box_event ?hg (N := 1) ?hd (cs := #[.int .i64 a0_0, .int .i64 a0_1, .int .i64 a0_2, .int .i64 a0_3, .bool a0_4, .slice A0_5 l0_5.length c0_5]) (t := 47) ?hr ?_; (case hd => rfl); (case hg => rfl); (case hr => first | (go_simp; done) | (go_simp; rfl)); intro gb227 hg w12 hbox hb; have n0_ := Aside0.mk (below_step (be_ HB) hb); have n1_ := Aside0.mk (hbox); have n2_ := gw_ HB hg; have n3_ := gw_ HB hg; clear HB; have HB := n0_; have BK227 := n1_; have GW227 := n2_; have GE227 := n3_; clear n0_ n1_ n2_ n3_; clear hb hbox hg; have hcz13_0 := bc_ BK227 0 (.int .i64 a0_0) rfl; have hcz13_1 := bc_ BK227 1 (.int .i64 a0_1) rfl; have hcz13_2 := bc_ BK227 2 (.int .i64 a0_2) rfl; have hcz13_3 := bc_ BK227 3 (.int .i64 a0_3) rfl; have hcz13_4 := bc_ BK227 4 (.bool a0_4) rfl; have hcz13_5 := bc_ BK227 5 (.slice A0_5 l0_5.length c0_5) rfl; have hfz13_0 := blk_frozen BK227.out 0; have hfz13_1 := blk_frozen BK227.out 1; have hfz13_2 := blk_frozen BK227.out 2; have hfz13_3 := blk_frozen BK227.out 3; have hfz13_4 := blk_frozen BK227.out 4; have hfz13_5 := blk_frozen BK227.out 5) | ((with_reducible refine gate_callee (f := 48) rfl ?_); refine goesL_ (some 4) rfl rfl Try.func48 (by kernel_rfl) rfl #[.agg #[.int .i64 a0_0, .int .i64 a0_1, .int .i64 a0_2, .int .i64 a0_3, .bool a0_4, .slice A0_5 l0_5.length c0_5]] rfl mt_ ?_; (with_reducible refine (impl_BufOk.calls k a0_0 a0_1 a0_2 a0_3 a0_4 _ _ l0_5 true _ ?side1 ?side2 A2.out).mono ?_); (case side1 => repeat (first | exact (Kd.C_below HR0_5.out HB.out) | (with_reducible refine Kd.C_alloc ?_ _) | (with_reducible refine Kd.C_drewN ?_ _) | (with_reducible refine Kd.C_drew ?_))); (case side2 => exact HC0_5.out); rintro e w14 ⟨rfl, hb⟩; refine ⟨_, rfl, ?_⟩; have n0_ := bb_ BK227 hb; have n1_ := Aside0.mk (below_step (bf_ HB) hb); clear BK227; clear HB; have BK227 := n0_; have HB := n1_; clear n0_ n1_; (try clear hb); (try clear hb2); (try clear hk); (try clear hi); have hcz15_0 := bc_ BK227 0 (.int .i64 a0_0) rfl; have hcz15_1 := bc_ BK227 1 (.int .i64 a0_1) rfl; have hcz15_2 := bc_ BK227 2 (.int .i64 a0_2) rfl; have hcz15_3 := bc_ BK227 3 (.int .i64 a0_3) rfl; have hcz15_4 := bc_ BK227 4 (.bool a0_4) rfl; have hcz15_5 := bc_ BK227 5 (.slice A0_5 l0_5.length c0_5) rfl; have hfz15_0 := blk_frozen BK227.out 0; have hfz15_1 := blk_frozen BK227.out 1; have hfz15_2 := blk_frozen BK227.out 2; have hfz15_3 := blk_frozen BK227.out 3; have hfz15_4 := blk_frozen BK227.out 4; have hfz15_5 := blk_frozen BK227.out 5))
     have n0_ := Aside0.mk (blk_drew BK227.out); have n1_ := Aside0.mk (below_drew1 HB.out); clear BK227; clear HB; have BK227 := n0_; have HB := n1_; clear n0_ n1_
     have p230 : 0 ≤ (t229 : Int) := of_decide_eq_true (by first | (with_reducible assumption) | assumption)
     have q230 : t229 < (l0_5.length : Int) := of_decide_eq_true (by first | (with_reducible assumption) | assumption)
     obtain ⟨ad230, A230_1, c230_1, e230, hx230_0, hx230_1, hl230_1, hi230_1⟩ := at_T80 HR0_5.out t229 p230 q230
     have hw230_1 := hx230_1; have hw230_0 := hx230_0
     cases e230
     replace hx230_0 := (HB.out.cell (World.block_lt_of_cell? w _ hx230_0)).trans hx230_0
     replace hx230_1 := (HB.out.cell (World.block_lt_of_cell? w _ hx230_1)).trans hx230_1
     have HR230_1 := Aside0.mk hi230_1
     have HC230_1 := Aside0.mk hl230_1
     clear hi230_1 hl230_1
     replace p230 := eq_true p230
     replace q230 := eq_true q230
     refine start_ (n := 8) (S := fun w' => w'.cell? ⟨gb227, 0, none⟩ = some (.int .i64 a0_0) ∧ w'.cell? ⟨gb227, 1, none⟩ = some (.int .i64 a0_1) ∧ w'.cell? ⟨gb227, 2, none⟩ = some (.int .i64 a0_2) ∧ w'.cell? ⟨gb227, 3, none⟩ = some (.int .i64 a0_3) ∧ w'.cell? ⟨gb227, 4, none⟩ = some (.bool a0_4) ∧ w'.cell? ⟨gb227, 5, none⟩ = some (.slice (some ad230) l0_5.length c0_5) ∧ w'.cell? (ad230.add ((t229).toNat * 2)) = some (.int .i64 ((rd_T80 l0_5 t229).f0)) ∧ w'.cell? ⟨(ad230.add ((t229).toNat * 2)).block, (ad230.add ((t229).toNat * 2)).off + 1, none⟩ = some (.slice A230_1 ((rd_T80 l0_5 t229).f1).length c230_1)) (ds := []) (bs 8 0) (by kernel_rfl) rfl rfl ⟨bt_ BK227 0, bt_ BK227 1, bt_ BK227 2, bt_ BK227 3, bt_ BK227 4, bt_ BK227 5, ((HB.out.cell (World.block_lt_of_cell? w _ hw230_0)).trans hw230_0), ((HB.out.cell (World.block_lt_of_cell? w _ hw230_1)).trans hw230_1)⟩ (fun hHeld => ?_); refine with_tabW impl_BufLongest.tab3 impl_BufLongest.bits3 (fun HT_ HW_ => ?_)
     generalize w14.drew = w16 at BK227 HB HR230_1 hx230_0 hx230_1 hHeld ⊢
     refine pure_s (i := 0) (N := some 12) (bs 8 1) (any_of HT_.out (by kernel_rfl)) (h := ?_)
     refine take_ (i := 1) (N := some 13) (v := ?_) (a' := ?_) (bs 8 2) rfl rfl (take_ofW HT_.out HW_.out (by kernel_rfl)) (fun _ _ _ h => h) (Or.inl ⟨by rfl, ?_⟩) hHeld ?_ ?_
     rotate_left
     ·rintro w' ⟨s0, s1, s2, s3, s4, s5, s6, s7⟩
      go_simp
      with_reducible rfl
     rotate_left
     ·simp only [Act.put, List.setIfInBounds_toArray, List.set_cons_zero, List.set_cons_succ, i64_w, i32_w]
      rfl
     refine take_ (i := 2) (N := some 14) (v := ?_) (a' := ?_) (bs 8 3) rfl rfl (take_ofW HT_.out HW_.out (by kernel_rfl)) (fun _ _ _ h => h) (Or.inl ⟨by rfl, ?_⟩) hHeld ?_ ?_
     rotate_left
     ·rintro w' ⟨s0, s1, s2, s3, s4, s5, s6, s7⟩
      go_simp
      with_reducible rfl
     rotate_left
     ·simp only [Act.put, List.setIfInBounds_toArray, List.set_cons_zero, List.set_cons_succ, i64_w, i32_w]
      rfl
     refine one_ (i := 3) (N := some 15) (bs 8 4) rfl rfl (one_of HT_.out (by kernel_rfl)) (by decide) (fun K hK => ?_)
     refine goes_ Try.func107 (by kernel_rfl) rfl #[.agg #[.int .i64 a0_0, .int .i64 a0_1, .int .i64 a0_2, .int .i64 a0_3, .bool a0_4, .slice (some ad230) l0_5.length c0_5]] (by rfl) rfl rfl mt_ ?_
     with_reducible refine (impl_Buf_longest.calls k a0_0 a0_1 a0_2 a0_3 a0_4 _ _ l0_5 t229 _ ?side1 ?side2 A9.out).mono ?_
     (case side1 => repeat (first | exact (Kd.C_below HR0_5.out HB.out) | (with_reducible refine Kd.C_alloc ?_ _) | (with_reducible refine Kd.C_drewN ?_ _) | (with_reducible refine Kd.C_drew ?_)))
     (case side2 => exact HC0_5.out)
     rintro e w17 ⟨rfl, hb⟩
     refine ⟨_, rfl, ?_⟩
     have n0_ := bb_ BK227 hb; have n1_ := Aside0.mk (below_step (bf_ HB) hb); clear BK227; clear HB; have BK227 := n0_; have HB := n1_; clear n0_ n1_; (try clear hb); (try clear hb2); (try clear hk); (try clear hi)
     refine hK.out _ _ ⟨bt_ BK227 0, bt_ BK227 1, bt_ BK227 2, bt_ BK227 3, bt_ BK227 4, bt_ BK227 5, ((HB.out.cell (World.block_lt_of_cell? w _ hw230_0)).trans hw230_0), ((HB.out.cell (World.block_lt_of_cell? w _ hw230_1)).trans hw230_1)⟩ (fun hHeld => ?_)
     clear hK K
     refine norm_ (a' := ?_) ?_ ?_
     rotate_left
     ·show Act.put _ (some 15) _ = _
      simp only [Act.put, List.setIfInBounds_toArray, List.set_cons_zero, List.set_cons_succ, i64_w, i32_w]
      rfl
     refine pure_s (i := 4) (N := some 16) (bs 8 5) (any_of HT_.out (by kernel_rfl)) (h := ?_)
     refine pure_s (i := 5) (N := some 17) (bs 8 6) (any_of HT_.out (by kernel_rfl)) (h := ?_)
     refine take_ (i := 6) (N := some 18) (v := ?_) (a' := ?_) (bs 8 7) rfl rfl (take_ofW HT_.out HW_.out (by kernel_rfl)) (fun _ _ _ h => h) (Or.inl ⟨by rfl, ?_⟩) hHeld ?_ ?_
     rotate_left
     ·rintro w' ⟨s0, s1, s2, s3, s4, s5, s6, s7⟩
      go_simp
      with_reducible rfl
     rotate_left
     ·simp only [Act.put, List.setIfInBounds_toArray, List.set_cons_zero, List.set_cons_succ, i64_w, i32_w]
      rfl
     refine pure_s (i := 7) (N := some 2) (bs 8 8) (any_of HT_.out (by kernel_rfl)) (h := ?_)
     refine done_ (done_of HT_.out (by kernel_rfl)) ?_
     try go_wp2
     go_ret
     exact ⟨by first | rfl | (simp [errW_none, errW_some] <;> rfl) | (simp [*, errW_none, errW_some] <;> rfl), bf_ HB⟩
    ·rw [if_neg c11] at H
     exact absurd H (by simp)
   ·rw [if_neg c10] at H
    exact absurd H (by simp)
 ·replace c3 := Bool.eq_false_iff.mpr c3
  subst c3
  have H1 : (some (-1)) = some r := by rw [if_neg (show ¬ (false = true) by decide)] at H; exact H
  clear H
  have H := H1
  clear H1
  obtain rfl := Option.some.inj H
  go_enter Try.func52, Try.ntmps52
  go_wp2_with (first | ((with_reducible refine gate_dst (N := 1) rfl ?_); (try (refine gate_guard (by rfl) ?_; dsimp only)); refine box_event ?hg (N := 1) ?hd (cs := #[.int .i64 a0_0, .int .i64 a0_1, .int .i64 a0_2, .int .i64 a0_3, .bool a0_4, .slice A0_5 l0_5.length c0_5]) (t := 47) ?hr ?_; (case hd => rfl); (case hg => rfl); (case hr => first | (go_simp; done) | (go_simp; rfl)); intro gb227 hg w18 hbox hb; have n0_ := Aside0.mk (below_step (be_ HB) hb); have n1_ := Aside0.mk (hbox); have n2_ := gw_ HB hg; have n3_ := gw_ HB hg; clear HB; have HB := n0_; have BK227 := n1_; have GW227 := n2_; have GE227 := n3_; clear n0_ n1_ n2_ n3_; clear hb hbox hg; have hcz19_0 := bc_ BK227 0 (.int .i64 a0_0) rfl; have hcz19_1 := bc_ BK227 1 (.int .i64 a0_1) rfl; have hcz19_2 := bc_ BK227 2 (.int .i64 a0_2) rfl; have hcz19_3 := bc_ BK227 3 (.int .i64 a0_3) rfl; have hcz19_4 := bc_ BK227 4 (.bool a0_4) rfl; have hcz19_5 := bc_ BK227 5 (.slice A0_5 l0_5.length c0_5) rfl; have hfz19_0 := blk_frozen BK227.out 0; have hfz19_1 := blk_frozen BK227.out 1; have hfz19_2 := blk_frozen BK227.out 2; have hfz19_3 := blk_frozen BK227.out 3; have hfz19_4 := blk_frozen BK227.out 4; have hfz19_5 := blk_frozen BK227.out 5) | ((with_reducible refine gate_callee (f := 48) rfl ?_); refine goesL_ (some 4) rfl rfl Try.func48 (by kernel_rfl) rfl #[.agg #[.int .i64 a0_0, .int .i64 a0_1, .int .i64 a0_2, .int .i64 a0_3, .bool a0_4, .slice A0_5 l0_5.length c0_5]] rfl mt_ ?_; (with_reducible refine (impl_BufOk.calls k a0_0 a0_1 a0_2 a0_3 a0_4 _ _ l0_5 false _ ?side1 ?side2 A2.out).mono ?_); (case side1 => repeat (first | exact (Kd.C_below HR0_5.out HB.out) | (with_reducible refine Kd.C_alloc ?_ _) | (with_reducible refine Kd.C_drewN ?_ _) | (with_reducible refine Kd.C_drew ?_))); (case side2 => exact HC0_5.out); rintro e w20 ⟨rfl, hb⟩; refine ⟨_, rfl, ?_⟩; have n0_ := bb_ BK227 hb; have n1_ := Aside0.mk (below_step (bf_ HB) hb); clear BK227; clear HB; have BK227 := n0_; have HB := n1_; clear n0_ n1_; (try clear hb); (try clear hb2); (try clear hk); (try clear hi)))
  go_ret
  exact ⟨by first | rfl | (simp [errW_none, errW_some] <;> rfl) | (simp [*, errW_none, errW_some] <;> rfl), bf_ HB⟩

/-! ### laws_FnExactBufLongest: function 9 -/
def laws_FnExactBufLongest.f (k : Nat) (a0_0 : Int) (a0_1 : Int) (a0_2 : Int) (a0_3 : Int) (a0_4 : Bool) (l0_5 : List (S133)) : Option (Bool) := (laws_szBuf.f k a0_0 a0_1 a0_2 a0_3 a0_4 l0_5 1048576).bind fun t232 => (if t232 < 0 then (some true) else ((laws_toBuf.f k a0_0 a0_1 a0_2 a0_3 a0_4 l0_5).bind fun bt233 => ((spec_BufLongest.f k bt233.1 bt233.2.1 bt233.2.2.1 bt233.2.2.2.1 bt233.2.2.2.2.1 bt233.2.2.2.2.2).bind fun t241 => ((laws_toBuf.f k a0_0 a0_1 a0_2 a0_3 a0_4 l0_5).bind fun bt242 => ((impl_BufLongest.f k bt242.1 bt242.2.1 bt242.2.2.1 bt242.2.2.2.1 bt242.2.2.2.2.1 bt242.2.2.2.2.2).bind fun t251 => (if t251 = t241 then ((laws_toBuf.f k a0_0 a0_1 a0_2 a0_3 a0_4 l0_5).bind fun bt252 => ((laws_eqBuf.f k bt242.1 bt242.2.1 bt242.2.2.1 bt242.2.2.2.1 bt242.2.2.2.2.1 bt242.2.2.2.2.2 bt252.1 bt252.2.1 bt252.2.2.1 bt252.2.2.2.1 bt252.2.2.2.2.1 bt252.2.2.2.2.2).bind fun t260 => (if t260 = true then (some true) else (some false)))) else (some false)))))))
theorem laws_FnExactBufLongest.mono : ∀ a0 a1 a2 a3 a4 a5 k, LeO (laws_FnExactBufLongest.f k a0 a1 a2 a3 a4 a5) (laws_FnExactBufLongest.f (k + 1) a0 a1 a2 a3 a4 a5) := by
 intro a0 a1 a2 a3 a4 a5 k
 unfold laws_FnExactBufLongest.f
 repeat' first
   | (with_reducible exact impl_BufLongest.mono _ _ _ _ _ _ _)
   | (with_reducible exact laws_eqBuf.mono _ _ _ _ _ _ _ _ _ _ _ _ _)
   | (with_reducible exact laws_szBuf.mono _ _ _ _ _ _ _ _)
   | (with_reducible exact laws_toBuf.mono _ _ _ _ _ _ _)
   | (with_reducible exact spec_BufLongest.mono _ _ _ _ _ _ _)
   | (with_reducible exact LeO.refl _)
   | (with_reducible exact LeO.none _)
   | (with_reducible refine LeO.ite ?_ ?_)
   | (with_reducible refine LeO.bind ?_ (fun _ => ?_))
   | exact impl_BufLongest.mono _ _ _ _ _ _ _
   | exact laws_eqBuf.mono _ _ _ _ _ _ _ _ _ _ _ _ _
   | exact laws_szBuf.mono _ _ _ _ _ _ _ _
   | exact laws_toBuf.mono _ _ _ _ _ _ _
   | exact spec_BufLongest.mono _ _ _ _ _ _ _
   | exact LeO.none _
   | refine LeO.ite ?_ ?_
   | refine LeO.bind ?_ (fun _ => ?_)
set_option maxHeartbeats 8000000 in
set_option maxRecDepth 100000 in
theorem laws_FnExactBufLongest.calls (k : Nat) (a0_0 : Int) (a0_1 : Int) (a0_2 : Int) (a0_3 : Int) (a0_4 : Bool) (A0_5 : Option Addr) (c0_5 : Nat) (l0_5 : List (S133)) (r : Bool) (w : World) (hr0_5 : Kd.C k133 w A0_5 l0_5.length l0_5) (hc0_5 : l0_5.length ≤ c0_5) (h : laws_FnExactBufLongest.f k a0_0 a0_1 a0_2 a0_3 a0_4 l0_5 = some r) :
  Calls Try.prog 9 #[.agg #[.int .i64 a0_0, .int .i64 a0_1, .int .i64 a0_2, .int .i64 a0_3, .bool a0_4, .slice A0_5 l0_5.length c0_5]] w fun e w' => e = .returned (.bool r) ∧ Below w.heap.size w w' := by
 have hu40 := Try.underlying40; have hu47 := Try.underlying47
 have HR0_5 := Aside0.mk hr0_5
 have HC0_5 := Aside0.mk hc0_5
 clear hr0_5 hc0_5; have HB := Aside0.mk (Below.refl w.heap.size w)
 have H : ((laws_szBuf.f k a0_0 a0_1 a0_2 a0_3 a0_4 l0_5 1048576).bind fun t232 => (if t232 < 0 then (some true) else ((laws_toBuf.f k a0_0 a0_1 a0_2 a0_3 a0_4 l0_5).bind fun bt233 => ((spec_BufLongest.f k bt233.1 bt233.2.1 bt233.2.2.1 bt233.2.2.2.1 bt233.2.2.2.2.1 bt233.2.2.2.2.2).bind fun t241 => ((laws_toBuf.f k a0_0 a0_1 a0_2 a0_3 a0_4 l0_5).bind fun bt242 => ((impl_BufLongest.f k bt242.1 bt242.2.1 bt242.2.2.1 bt242.2.2.2.1 bt242.2.2.2.2.1 bt242.2.2.2.2.2).bind fun t251 => (if t251 = t241 then ((laws_toBuf.f k a0_0 a0_1 a0_2 a0_3 a0_4 l0_5).bind fun bt252 => ((laws_eqBuf.f k bt242.1 bt242.2.1 bt242.2.2.1 bt242.2.2.2.1 bt242.2.2.2.2.1 bt242.2.2.2.2.2 bt252.1 bt252.2.1 bt252.2.2.1 bt252.2.2.2.1 bt252.2.2.2.2.1 bt252.2.2.2.2.2).bind fun t260 => (if t260 = true then (some true) else (some false)))) else (some false)))))))) = some r := h
 clear h
 replace H := Option.bind_eq_some_iff.mp H
 obtain ⟨t232, A20, H⟩ := H
 replace H : (if t232 < 0 then (some true) else ((laws_toBuf.f k a0_0 a0_1 a0_2 a0_3 a0_4 l0_5).bind fun bt233 => ((spec_BufLongest.f k bt233.1 bt233.2.1 bt233.2.2.1 bt233.2.2.2.1 bt233.2.2.2.2.1 bt233.2.2.2.2.2).bind fun t241 => ((laws_toBuf.f k a0_0 a0_1 a0_2 a0_3 a0_4 l0_5).bind fun bt242 => ((impl_BufLongest.f k bt242.1 bt242.2.1 bt242.2.2.1 bt242.2.2.2.1 bt242.2.2.2.2.1 bt242.2.2.2.2.2).bind fun t251 => (if t251 = t241 then ((laws_toBuf.f k a0_0 a0_1 a0_2 a0_3 a0_4 l0_5).bind fun bt252 => ((laws_eqBuf.f k bt242.1 bt242.2.1 bt242.2.2.1 bt242.2.2.2.1 bt242.2.2.2.2.1 bt242.2.2.2.2.2 bt252.1 bt252.2.1 bt252.2.2.1 bt252.2.2.2.1 bt252.2.2.2.2.1 bt252.2.2.2.2.2).bind fun t260 => (if t260 = true then (some true) else (some false)))) else (some false))))))) = some r := H
 have A2 := Aside0.mk A20
 clear A20
 by_cases c3 : t232 < 0
 ·rw [if_pos c3] at H
  have c3b0 : decide (t232 < 0) = true := decide_eq_true c3
  clear c3
  obtain rfl := Option.some.inj H
  go_enter Try.func9, Try.ntmps9
  go_wp2_with (first | ((with_reducible refine gate_dst (N := 1) rfl ?_); refine box_event ?hg (N := 1) ?hd (cs := #[.int .i64 a0_0, .int .i64 a0_1, .int .i64 a0_2, .int .i64 a0_3, .bool a0_4, .slice A0_5 l0_5.length c0_5]) (t := 40) ?hr ?_; (case hd => rfl); (case hg => rfl); (case hr => first | (go_simp; done) | (go_simp; rfl)); intro gb231 hg w4 hbox hb; have n0_ := Aside0.mk (below_step (be_ HB) hb); have n1_ := Aside0.mk (hbox); have n2_ := gw_ HB hg; have n3_ := gw_ HB hg; clear HB; have HB := n0_; have BK231 := n1_; have GW231 := n2_; have GE231 := n3_; clear n0_ n1_ n2_ n3_; clear hb hbox hg; have hcz5_0 := bc_ BK231 0 (.int .i64 a0_0) rfl; have hcz5_1 := bc_ BK231 1 (.int .i64 a0_1) rfl; have hcz5_2 := bc_ BK231 2 (.int .i64 a0_2) rfl; have hcz5_3 := bc_ BK231 3 (.int .i64 a0_3) rfl; have hcz5_4 := bc_ BK231 4 (.bool a0_4) rfl; have hcz5_5 := bc_ BK231 5 (.slice A0_5 l0_5.length c0_5) rfl; have hfz5_0 := blk_frozen BK231.out 0; have hfz5_1 := blk_frozen BK231.out 1; have hfz5_2 := blk_frozen BK231.out 2; have hfz5_3 := blk_frozen BK231.out 3; have hfz5_4 := blk_frozen BK231.out 4; have hfz5_5 := blk_frozen BK231.out 5) | ((with_reducible refine gate_callee (f := 24) rfl ?_); refine goesL_ (some 9) rfl rfl Try.func24 (by kernel_rfl) rfl #[.agg #[.int .i64 a0_0, .int .i64 a0_1, .int .i64 a0_2, .int .i64 a0_3, .bool a0_4, .slice A0_5 l0_5.length c0_5], .int .i64 1048576] rfl mt_ ?_; (with_reducible refine (laws_szBuf.calls k a0_0 a0_1 a0_2 a0_3 a0_4 _ _ l0_5 1048576 t232 _ ?side1 ?side2 A2.out).mono ?_); (case side1 => repeat (first | exact (Kd.C_below HR0_5.out HB.out) | (with_reducible refine Kd.C_alloc ?_ _) | (with_reducible refine Kd.C_drewN ?_ _) | (with_reducible refine Kd.C_drew ?_))); (case side2 => exact HC0_5.out); rintro e w6 ⟨rfl, hb⟩; refine ⟨_, rfl, ?_⟩; have n0_ := bb_ BK231 hb; have n1_ := Aside0.mk (below_step (bf_ HB) hb); clear BK231; clear HB; have BK231 := n0_; have HB := n1_; clear n0_ n1_; (try clear hb); (try clear hb2); (try clear hk); (try clear hi)))
  go_ret
  exact ⟨by first | rfl | (simp [errW_none, errW_some] <;> rfl) | (simp [*, errW_none, errW_some] <;> rfl), bf_ HB⟩
 ·rw [if_neg c3] at H
  have c3b0 : decide (t232 < 0) = false := decide_eq_false c3
  clear c3
  replace H := Option.bind_eq_some_iff.mp H
  obtain ⟨⟨t233, t234, t235, t236, t237, t238⟩, A70, H⟩ := H
  replace H : ((spec_BufLongest.f k t233 t234 t235 t236 t237 t238).bind fun t241 => ((laws_toBuf.f k a0_0 a0_1 a0_2 a0_3 a0_4 l0_5).bind fun bt242 => ((impl_BufLongest.f k bt242.1 bt242.2.1 bt242.2.2.1 bt242.2.2.2.1 bt242.2.2.2.2.1 bt242.2.2.2.2.2).bind fun t251 => (if t251 = t241 then ((laws_toBuf.f k a0_0 a0_1 a0_2 a0_3 a0_4 l0_5).bind fun bt252 => ((laws_eqBuf.f k bt242.1 bt242.2.1 bt242.2.2.1 bt242.2.2.2.1 bt242.2.2.2.2.1 bt242.2.2.2.2.2 bt252.1 bt252.2.1 bt252.2.2.1 bt252.2.2.2.1 bt252.2.2.2.2.1 bt252.2.2.2.2.2).bind fun t260 => (if t260 = true then (some true) else (some false)))) else (some false))))) = some r := H
  have A7 := Aside0.mk A70
  clear A70
  replace H := Option.bind_eq_some_iff.mp H
  obtain ⟨t241, A80, H⟩ := H
  replace H : ((laws_toBuf.f k a0_0 a0_1 a0_2 a0_3 a0_4 l0_5).bind fun bt242 => ((impl_BufLongest.f k bt242.1 bt242.2.1 bt242.2.2.1 bt242.2.2.2.1 bt242.2.2.2.2.1 bt242.2.2.2.2.2).bind fun t251 => (if t251 = t241 then ((laws_toBuf.f k a0_0 a0_1 a0_2 a0_3 a0_4 l0_5).bind fun bt252 => ((laws_eqBuf.f k bt242.1 bt242.2.1 bt242.2.2.1 bt242.2.2.2.1 bt242.2.2.2.2.1 bt242.2.2.2.2.2 bt252.1 bt252.2.1 bt252.2.2.1 bt252.2.2.2.1 bt252.2.2.2.2.1 bt252.2.2.2.2.2).bind fun t260 => (if t260 = true then (some true) else (some false)))) else (some false)))) = some r := H
  have A8 := Aside0.mk A80
  clear A80
  replace H := Option.bind_eq_some_iff.mp H
  obtain ⟨⟨t242, t243, t244, t245, t246, t247⟩, A90, H⟩ := H
  replace H : ((impl_BufLongest.f k t242 t243 t244 t245 t246 t247).bind fun t251 => (if t251 = t241 then ((laws_toBuf.f k a0_0 a0_1 a0_2 a0_3 a0_4 l0_5).bind fun bt252 => ((laws_eqBuf.f k t242 t243 t244 t245 t246 t247 bt252.1 bt252.2.1 bt252.2.2.1 bt252.2.2.2.1 bt252.2.2.2.2.1 bt252.2.2.2.2.2).bind fun t260 => (if t260 = true then (some true) else (some false)))) else (some false))) = some r := H
  have A9 := Aside0.mk A90
  clear A90
  replace H := Option.bind_eq_some_iff.mp H
  obtain ⟨t251, A100, H⟩ := H
  replace H : (if t251 = t241 then ((laws_toBuf.f k a0_0 a0_1 a0_2 a0_3 a0_4 l0_5).bind fun bt252 => ((laws_eqBuf.f k t242 t243 t244 t245 t246 t247 bt252.1 bt252.2.1 bt252.2.2.1 bt252.2.2.2.1 bt252.2.2.2.2.1 bt252.2.2.2.2.2).bind fun t260 => (if t260 = true then (some true) else (some false)))) else (some false)) = some r := H
  have A10 := Aside0.mk A100
  clear A100
  by_cases c11 : t251 = t241
  ·rw [if_pos c11] at H
   have c11b0 : (t251 == t241) = true := beq_iff_eq.mpr c11
   have c11b1 : (t251 != t241) = false := bne_eq_false_iff_eq.mpr c11
   clear c11
   replace H := Option.bind_eq_some_iff.mp H
   obtain ⟨⟨t252, t253, t254, t255, t256, t257⟩, A120, H⟩ := H
   replace H : ((laws_eqBuf.f k t242 t243 t244 t245 t246 t247 t252 t253 t254 t255 t256 t257).bind fun t260 => (if t260 = true then (some true) else (some false))) = some r := H
   have A12 := Aside0.mk A120
   clear A120
   replace H := Option.bind_eq_some_iff.mp H
   obtain ⟨t260, A130, H⟩ := H
   replace H : (if t260 = true then (some true) else (some false)) = some r := H
   have A13 := Aside0.mk A130
   clear A130
   by_cases c14 : t260 = true
   ·subst c14
    have H1 : (some true) = some r := by rw [if_pos rfl] at H; exact H
    clear H
    have H := H1
    clear H1
    obtain rfl := Option.some.inj H
    go_enter Try.func9, Try.ntmps9
    try go_wp2_with (first | ((with_reducible refine gate_dst (N := 1) rfl ?_); refine box_event ?hg (N := 1) ?hd (cs := #[.int .i64 a0_0, .int .i64 a0_1, .int .i64 a0_2, .int .i64 a0_3, .bool a0_4, .slice A0_5 l0_5.length c0_5]) (t := 40) ?hr ?_; (case hd => rfl); (case hg => rfl); (case hr => first | (go_simp; done) | (go_simp; rfl)); intro gb231 hg w15 hbox hb; have n0_ := Aside0.mk (below_step (be_ HB) hb); have n1_ := Aside0.mk (hbox); have n2_ := gw_ HB hg; have n3_ := gw_ HB hg; clear HB; have HB := n0_; have BK231 := n1_; have GW231 := n2_; have GE231 := n3_; clear n0_ n1_ n2_ n3_; clear hb hbox hg; have hcz16_0 := bc_ BK231 0 (.int .i64 a0_0) rfl; have hcz16_1 := bc_ BK231 1 (.int .i64 a0_1) rfl; have hcz16_2 := bc_ BK231 2 (.int .i64 a0_2) rfl; have hcz16_3 := bc_ BK231 3 (.int .i64 a0_3) rfl; have hcz16_4 := bc_ BK231 4 (.bool a0_4) rfl; have hcz16_5 := bc_ BK231 5 (.slice A0_5 l0_5.length c0_5) rfl; have hfz16_0 := blk_frozen BK231.out 0; have hfz16_1 := blk_frozen BK231.out 1; have hfz16_2 := blk_frozen BK231.out 2; have hfz16_3 := blk_frozen BK231.out 3; have hfz16_4 := blk_frozen BK231.out 4; have hfz16_5 := blk_frozen BK231.out 5) | ((with_reducible refine gate_callee (f := 24) rfl ?_); refine goesL_ (some 9) rfl rfl Try.func24 (by kernel_rfl) rfl #[.agg #[.int .i64 a0_0, .int .i64 a0_1, .int .i64 a0_2, .int .i64 a0_3, .bool a0_4, .slice A0_5 l0_5.length c0_5], .int .i64 1048576] rfl mt_ ?_; (with_reducible refine (laws_szBuf.calls k a0_0 a0_1 a0_2 a0_3 a0_4 _ _ l0_5 1048576 t232 _ ?side1 ?side2 A2.out).mono ?_); (case side1 => repeat (first | exact (Kd.C_below HR0_5.out HB.out) | (with_reducible refine Kd.C_alloc ?_ _) | (with_reducible refine Kd.C_drewN ?_ _) | (with_reducible refine Kd.C_drew ?_))); (case side2 => exact HC0_5.out); rintro e w17 ⟨rfl, hb⟩; refine ⟨_, rfl, ?_⟩; have n0_ := bb_ BK231 hb; have n1_ := Aside0.mk (below_step (bf_ HB) hb); clear BK231; clear HB; have BK231 := n0_; have HB := n1_; clear n0_ n1_; (try clear hb); (try clear hb2); (try clear hk); (try clear hi); have hcz18_0 := bc_ BK231 0 (.int .i64 a0_0) rfl; have hcz18_1 := bc_ BK231 1 (.int .i64 a0_1) rfl; have hcz18_2 := bc_ BK231 2 (.int .i64 a0_2) rfl; have hcz18_3 := bc_ BK231 3 (.int .i64 a0_3) rfl; have hcz18_4 := bc_ BK231 4 (.bool a0_4) rfl; have hcz18_5 := bc_ BK231 5 (.slice A0_5 l0_5.length c0_5) rfl; have hfz18_0 := blk_frozen BK231.out 0; have hfz18_1 := blk_frozen BK231.out 1; have hfz18_2 := blk_frozen BK231.out 2; have hfz18_3 := blk_frozen BK231.out 3; have hfz18_4 := blk_frozen BK231.out 4; have hfz18_5 := blk_frozen BK231.out 5) | ((with_reducible refine gate_callee (f := 26) rfl ?_); refine goesL_ (some 13) rfl rfl Try.func26 (by kernel_rfl) rfl #[.agg #[.int .i64 a0_0, .int .i64 a0_1, .int .i64 a0_2, .int .i64 a0_3, .bool a0_4, .slice A0_5 l0_5.length c0_5]] rfl mt_ ?_; (with_reducible refine (laws_toBuf.calls k a0_0 a0_1 a0_2 a0_3 a0_4 _ _ l0_5 t233 t234 t235 t236 t237 t238 _ ?side1 ?side2 A7.out).mono ?_); (case side1 => repeat (first | exact (Kd.C_below HR0_5.out HB.out) | (with_reducible refine Kd.C_alloc ?_ _) | (with_reducible refine Kd.C_drewN ?_ _) | (with_reducible refine Kd.C_drew ?_))); (case side2 => exact HC0_5.out); rintro e w19 ⟨v239, rfl, ho0, hb⟩; refine ⟨_, rfl, ?_⟩; have n0_ := Aside0.mk (Kd.S_lower ho0 (below_size (bf_ HB))); have n1_ := bb_ BK231 hb; have n2_ := Aside0.mk (below_step (bf_ HB) hb); clear BK231; clear HB; have HO240 := n0_; have BK231 := n1_; have HB := n2_; clear n0_ n1_ n2_; (try clear hb); (try clear hb2); (try clear hk); (try clear hi); (try clear ho0); obtain ⟨Ao20, co20, eo20⟩ := Kd.S_slice HO240.out; subst eo20) | ((with_reducible refine gate_callee (f := 51) rfl ?_); refine goesL_ (some 14) rfl rfl Try.func51 (by kernel_rfl) rfl #[.agg #[.int .i64 t233, .int .i64 t234, .int .i64 t235, .int .i64 t236, .bool t237, .slice Ao20 t238.length co20]] rfl mt_ ?_; (with_reducible refine (spec_BufLongest.calls k t233 t234 t235 t236 t237 _ _ t238 t241 _ ?side1 ?side2 A8.out).mono ?_); (case side1 => repeat (first | exact (Kd.S_reads' HO240.out).2.2 | (with_reducible refine Kd.C_alloc ?_ _) | (with_reducible refine Kd.C_drewN ?_ _) | (with_reducible refine Kd.C_drew ?_))); (case side2 => exact (Kd.S_reads' HO240.out).2.1); rintro e w21 ⟨rfl, hb⟩; refine ⟨_, rfl, ?_⟩; have n0_ := Aside0.mk (Kd.S_below (by (with_reducible repeat (first | apply Kd.S_alloc | apply Kd.S_drewN | apply Kd.S_drew)); exact HO240.out) hb); have n1_ := bb_ BK231 hb; have n2_ := Aside0.mk (below_step (bf_ HB) hb); clear HO240; clear BK231; clear HB; have HO240 := n0_; have BK231 := n1_; have HB := n2_; clear n0_ n1_ n2_; (try clear hb); (try clear hb2); (try clear hk); (try clear hi); have hcz22_0 := bc_ BK231 0 (.int .i64 a0_0) rfl; have hcz22_1 := bc_ BK231 1 (.int .i64 a0_1) rfl; have hcz22_2 := bc_ BK231 2 (.int .i64 a0_2) rfl; have hcz22_3 := bc_ BK231 3 (.int .i64 a0_3) rfl; have hcz22_4 := bc_ BK231 4 (.bool a0_4) rfl; have hcz22_5 := bc_ BK231 5 (.slice A0_5 l0_5.length c0_5) rfl; have hfz22_0 := blk_frozen BK231.out 0; have hfz22_1 := blk_frozen BK231.out 1; have hfz22_2 := blk_frozen BK231.out 2; have hfz22_3 := blk_frozen BK231.out 3; have hfz22_4 := blk_frozen BK231.out 4; have hfz22_5 := blk_frozen BK231.out 5) | ((with_reducible refine gate_callee (f := 26) rfl ?_); refine goesL_ (some 16) rfl rfl Try.func26 (by kernel_rfl) rfl #[.agg #[.int .i64 a0_0, .int .i64 a0_1, .int .i64 a0_2, .int .i64 a0_3, .bool a0_4, .slice A0_5 l0_5.length c0_5]] rfl mt_ ?_; (with_reducible refine (laws_toBuf.calls k a0_0 a0_1 a0_2 a0_3 a0_4 _ _ l0_5 t242 t243 t244 t245 t246 t247 _ ?side1 ?side2 A9.out).mono ?_); (case side1 => repeat (first | exact (Kd.C_below HR0_5.out HB.out) | (with_reducible refine Kd.C_alloc ?_ _) | (with_reducible refine Kd.C_drewN ?_ _) | (with_reducible refine Kd.C_drew ?_))); (case side2 => exact HC0_5.out); rintro e w23 ⟨v248, rfl, ho0, hb⟩; refine ⟨_, rfl, ?_⟩; have n0_ := Aside0.mk (Kd.S_elder' (by (with_reducible repeat (first | apply Kd.S_alloc | apply Kd.S_drewN | apply Kd.S_drew)); exact HO240.out) (Kd.S_base ho0) hb); have n1_ := Aside0.mk (Kd.S_lower (Kd.S_new' ho0 (Kd.S_lt (by (with_reducible repeat (first | apply Kd.S_alloc | apply Kd.S_drewN | apply Kd.S_drew)); exact HO240.out))) (below_size (bf_ HB))); have n2_ := bb_ BK231 hb; have n3_ := Aside0.mk (below_step (bf_ HB) hb); clear HO240; clear BK231; clear HB; have HO240 := n0_; have HO249 := n1_; have BK231 := n2_; have HB := n3_; clear n0_ n1_ n2_ n3_; (try clear hb); (try clear hb2); (try clear hk); (try clear hi); (try clear ho0)) | ((with_reducible refine gate_dst (N := 5) rfl ?_); refine box_event ?hg (N := 5) ?hd (cs := #[.int .i64 0, .int .i64 0, .int .i64 0, .int .i64 0, .bool false, .slice none 0 0]) (t := 47) ?hr ?_; (case hd => rfl); (case hg => rfl); (case hr => first | (go_simp; done) | (go_simp; rfl)); intro gb250 hg w24 hbox hb; have n0_ := Aside0.mk (Kd.S_below (by (with_reducible repeat (first | apply Kd.S_alloc | apply Kd.S_drewN | apply Kd.S_drew)); exact HO240.out) hb); have n1_ := Aside0.mk (Kd.S_below (by (with_reducible repeat (first | apply Kd.S_alloc | apply Kd.S_drewN | apply Kd.S_drew)); exact HO249.out) hb); have n2_ := bb_ BK231 hb; have n3_ := Aside0.mk (below_step (bf_ HB) hb); have n4_ := Aside0.mk (hbox); have n5_ := gw_ HB hg; have n6_ := gw_ HB hg; have n7_ := nl_ BK231 hg; have n8_ := ng_ BK231 hg; clear HO240; clear HO249; clear BK231; clear HB; have HO240 := n0_; have HO249 := n1_; have BK231 := n2_; have HB := n3_; have BK250 := n4_; have GW250 := n5_; have GE250 := n6_; have NB231_250 := n7_; have NB250_231 := n8_; clear n0_ n1_ n2_ n3_ n4_ n5_ n6_ n7_ n8_; clear hb hbox hg; have hnb25 := NB250_231.out; have hnc25 := NB231_250.out; have hcz26_0 := bc_ BK250 0 (.int .i64 0) rfl; have hcz26_1 := bc_ BK250 1 (.int .i64 0) rfl; have hcz26_2 := bc_ BK250 2 (.int .i64 0) rfl; have hcz26_3 := bc_ BK250 3 (.int .i64 0) rfl; have hcz26_4 := bc_ BK250 4 (.bool false) rfl; have hcz26_5 := bc_ BK250 5 (.slice none 0 0) rfl; have hfz26_0 := blk_frozen BK250.out 0; have hfz26_1 := blk_frozen BK250.out 1; have hfz26_2 := blk_frozen BK250.out 2; have hfz26_3 := blk_frozen BK250.out 3; have hfz26_4 := blk_frozen BK250.out 4; have hfz26_5 := blk_frozen BK250.out 5; obtain ⟨Ao27, co27, eo27⟩ := Kd.S_slice HO249.out; subst eo27) | ((with_reducible refine gate_callee (f := 52) rfl ?_); refine goesL_ (some 18) rfl rfl Try.func52 (by kernel_rfl) rfl #[.agg #[.int .i64 t242, .int .i64 t243, .int .i64 t244, .int .i64 t245, .bool t246, .slice Ao27 t247.length co27]] rfl mt_ ?_; (with_reducible refine (impl_BufLongest.calls k t242 t243 t244 t245 t246 _ _ t247 t251 _ ?side1 ?side2 A10.out).mono ?_); (case side1 => refine (Kd.S_reads' (e := 80) (base := w.heap.size) (ok := fun k_ => (True ∧ some k_ ≠ (.slice Ao20 t238.length co20 : Value).ownBlock)) (n := t247.length) (c := co27) ?_).2.2; exact (by (with_reducible repeat (first | apply Kd.S_alloc | apply Kd.S_drewN | apply Kd.S_drew)); exact (Kd.S_mono (Kd.S_far (p := ⟨gb250, 5, none⟩) (Kd.S_far (p := ⟨gb250, 4, none⟩) (Kd.S_far (p := ⟨gb250, 3, none⟩) (Kd.S_far (p := ⟨gb250, 2, none⟩) (Kd.S_far (p := ⟨gb250, 1, none⟩) (Kd.S_far (p := ⟨gb250, 0, none⟩) (Kd.S_types HO249.out BK250.out (by decide)) (fun _ hk => by first | exact hk.2 | grind) (.int .i64 t242)) (fun _ hk => by first | exact hk.2 | grind) (.int .i64 t243)) (fun _ hk => by first | exact hk.2 | grind) (.int .i64 t244)) (fun _ hk => by first | exact hk.2 | grind) (.int .i64 t245)) (fun _ hk => by first | exact hk.2 | grind) (.bool t246)) (fun _ hk => by first | exact hk.2 | grind) (.slice Ao27 t247.length co27)) (fun _ h_ => h_.1)))); (case side2 => exact (Kd.S_reads' HO249.out).2.1); rintro e w28 ⟨rfl, hb⟩; refine ⟨_, rfl, ?_⟩; have n0_ := Aside0.mk (Kd.S_below (by (with_reducible repeat (first | apply Kd.S_alloc | apply Kd.S_drewN | apply Kd.S_drew)); exact (Kd.S_mono (Kd.S_far (p := ⟨gb250, 5, none⟩) (Kd.S_far (p := ⟨gb250, 4, none⟩) (Kd.S_far (p := ⟨gb250, 3, none⟩) (Kd.S_far (p := ⟨gb250, 2, none⟩) (Kd.S_far (p := ⟨gb250, 1, none⟩) (Kd.S_far (p := ⟨gb250, 0, none⟩) (Kd.S_types HO240.out BK250.out (by decide)) (fun _ hk => by first | exact hk.2 | grind) (.int .i64 t242)) (fun _ hk => by first | exact hk.2 | grind) (.int .i64 t243)) (fun _ hk => by first | exact hk.2 | grind) (.int .i64 t244)) (fun _ hk => by first | exact hk.2 | grind) (.int .i64 t245)) (fun _ hk => by first | exact hk.2 | grind) (.bool t246)) (fun _ hk => by first | exact hk.2 | grind) (.slice Ao27 t247.length co27)) (fun _ h_ => h_.1))) hb); have n1_ := Aside0.mk (Kd.S_below (by (with_reducible repeat (first | apply Kd.S_alloc | apply Kd.S_drewN | apply Kd.S_drew)); exact (Kd.S_mono (Kd.S_far (p := ⟨gb250, 5, none⟩) (Kd.S_far (p := ⟨gb250, 4, none⟩) (Kd.S_far (p := ⟨gb250, 3, none⟩) (Kd.S_far (p := ⟨gb250, 2, none⟩) (Kd.S_far (p := ⟨gb250, 1, none⟩) (Kd.S_far (p := ⟨gb250, 0, none⟩) (Kd.S_types HO249.out BK250.out (by decide)) (fun _ hk => by first | exact hk.2 | grind) (.int .i64 t242)) (fun _ hk => by first | exact hk.2 | grind) (.int .i64 t243)) (fun _ hk => by first | exact hk.2 | grind) (.int .i64 t244)) (fun _ hk => by first | exact hk.2 | grind) (.int .i64 t245)) (fun _ hk => by first | exact hk.2 | grind) (.bool t246)) (fun _ hk => by first | exact hk.2 | grind) (.slice Ao27 t247.length co27)) (fun _ h_ => h_.1))) hb); have n2_ := bm_ BK231 hb; have n3_ := Aside0.mk (blk_below (g := gb250) (o := .cells #[.int .i64 t242, .int .i64 t243, .int .i64 t244, .int .i64 t245, .bool t246, .slice Ao27 t247.length co27] 47 (0, 0)) (by (with_reducible repeat (first | refine blk_drewN ?_ _ | refine blk_drew ?_ | refine blk_alloc ?_ _)); refine blk_put (cs := #[.int .i64 t242, .int .i64 t243, .int .i64 t244, .int .i64 t245, .bool t246, .slice none 0 0]) ?_ 5 _ rfl; (with_reducible repeat (first | refine blk_drewN ?_ _ | refine blk_drew ?_ | refine blk_alloc ?_ _)); refine blk_put (cs := #[.int .i64 t242, .int .i64 t243, .int .i64 t244, .int .i64 t245, .bool false, .slice none 0 0]) ?_ 4 _ rfl; (with_reducible repeat (first | refine blk_drewN ?_ _ | refine blk_drew ?_ | refine blk_alloc ?_ _)); refine blk_put (cs := #[.int .i64 t242, .int .i64 t243, .int .i64 t244, .int .i64 0, .bool false, .slice none 0 0]) ?_ 3 _ rfl; (with_reducible repeat (first | refine blk_drewN ?_ _ | refine blk_drew ?_ | refine blk_alloc ?_ _)); refine blk_put (cs := #[.int .i64 t242, .int .i64 t243, .int .i64 0, .int .i64 0, .bool false, .slice none 0 0]) ?_ 2 _ rfl; (with_reducible repeat (first | refine blk_drewN ?_ _ | refine blk_drew ?_ | refine blk_alloc ?_ _)); refine blk_put (cs := #[.int .i64 t242, .int .i64 0, .int .i64 0, .int .i64 0, .bool false, .slice none 0 0]) ?_ 1 _ rfl; (with_reducible repeat (first | refine blk_drewN ?_ _ | refine blk_drew ?_ | refine blk_alloc ?_ _)); refine blk_put (cs := #[.int .i64 0, .int .i64 0, .int .i64 0, .int .i64 0, .bool false, .slice none 0 0]) ?_ 0 _ rfl; exact bk_ BK250) hb); have n4_ := Aside0.mk (below_step (bf_ HB) hb); clear HO240; clear HO249; clear BK231; clear BK250; clear HB; have HO240 := n0_; have HO249 := n1_; have BK231 := n2_; have BK250 := n3_; have HB := n4_; clear n0_ n1_ n2_ n3_ n4_; (try clear hb); (try clear hb2); (try clear hk); (try clear hi)))
    have n0_ := Aside0.mk (Kd.S_drew HO240.out); have n1_ := Aside0.mk (Kd.S_drew HO249.out); have n2_ := Aside0.mk (blk_drew BK231.out); have n3_ := Aside0.mk (blk_drew BK250.out); have n4_ := Aside0.mk (below_drew1 HB.out); clear HO240; clear HO249; clear BK231; clear BK250; clear HB; have HO240 := n0_; have HO249 := n1_; have BK231 := n2_; have BK250 := n3_; have HB := n4_; clear n0_ n1_ n2_ n3_ n4_
    refine start_ (n := 5) (S := fun w' => w'.cell? ⟨gb250, 0, none⟩ = some (.int .i64 t242) ∧ w'.cell? ⟨gb250, 1, none⟩ = some (.int .i64 t243) ∧ w'.cell? ⟨gb250, 2, none⟩ = some (.int .i64 t244) ∧ w'.cell? ⟨gb250, 3, none⟩ = some (.int .i64 t245) ∧ w'.cell? ⟨gb250, 4, none⟩ = some (.bool t246) ∧ w'.cell? ⟨gb250, 5, none⟩ = some (.slice Ao27 t247.length co27) ∧ w'.cell? ⟨gb231, 0, none⟩ = some (.int .i64 a0_0) ∧ w'.cell? ⟨gb231, 1, none⟩ = some (.int .i64 a0_1) ∧ w'.cell? ⟨gb231, 2, none⟩ = some (.int .i64 a0_2) ∧ w'.cell? ⟨gb231, 3, none⟩ = some (.int .i64 a0_3) ∧ w'.cell? ⟨gb231, 4, none⟩ = some (.bool a0_4) ∧ w'.cell? ⟨gb231, 5, none⟩ = some (.slice A0_5 l0_5.length c0_5)) (ds := []) (bs 5 0) (by kernel_rfl) rfl rfl ⟨bt_ BK250 0, bt_ BK250 1, bt_ BK250 2, bt_ BK250 3, bt_ BK250 4, bt_ BK250 5, bt_ BK231 0, bt_ BK231 1, bt_ BK231 2, bt_ BK231 3, bt_ BK231 4, bt_ BK231 5⟩ (fun hHeld => ?_)
    generalize w28.drew = w29 at HO240 HO249 BK231 BK250 HB hHeld ⊢
    refine take_ (i := 0) (N := some 22) (v := ?_) (a' := ?_) (bs 5 1) rfl rfl (by kernel_rfl) (fun _ _ _ h => h) (Or.inl ⟨by rfl, ?_⟩) hHeld ?_ ?_
    rotate_left
    ·rintro w' ⟨s0, s1, s2, s3, s4, s5, s6, s7, s8, s9, s10, s11⟩
     go_simp
     with_reducible rfl
    rotate_left
    ·simp only [Act.put, List.setIfInBounds_toArray, List.set_cons_zero, List.set_cons_succ, i64_w, i32_w]
     rfl
    refine take_ (i := 1) (N := some 23) (v := ?_) (a' := ?_) (bs 5 2) rfl rfl (by kernel_rfl) (fun _ _ _ h => h) (Or.inl ⟨by rfl, ?_⟩) hHeld ?_ ?_
    rotate_left
    ·rintro w' ⟨s0, s1, s2, s3, s4, s5, s6, s7, s8, s9, s10, s11⟩
     go_simp
     with_reducible rfl
    rotate_left
    ·simp only [Act.put, List.setIfInBounds_toArray, List.set_cons_zero, List.set_cons_succ, i64_w, i32_w]
     rfl
    refine one_ (i := 2) (N := some 24) (bs 5 3) rfl rfl (by kernel_rfl) (by decide) (fun K hK => ?_)
    refine goes_ Try.func26 (by kernel_rfl) rfl #[.agg #[.int .i64 a0_0, .int .i64 a0_1, .int .i64 a0_2, .int .i64 a0_3, .bool a0_4, .slice A0_5 l0_5.length c0_5]] (by rfl) rfl rfl mt_ ?_
    with_reducible refine (laws_toBuf.calls k a0_0 a0_1 a0_2 a0_3 a0_4 _ _ l0_5 t252 t253 t254 t255 t256 t257 _ ?side1 ?side2 A12.out).mono ?_
    (case side1 => repeat (first | exact (Kd.C_below HR0_5.out HB.out) | (with_reducible refine Kd.C_alloc ?_ _) | (with_reducible refine Kd.C_drewN ?_ _) | (with_reducible refine Kd.C_drew ?_)))
    (case side2 => exact HC0_5.out)
    rintro e w30 ⟨v258, rfl, ho0, hb⟩
    refine ⟨_, rfl, ?_⟩
    have n0_ := Aside0.mk (Kd.S_elder' (by (with_reducible repeat (first | apply Kd.S_alloc | apply Kd.S_drewN | apply Kd.S_drew)); exact HO240.out) (Kd.S_base ho0) hb)
    have n1_ := Aside0.mk (Kd.S_elder' (by (with_reducible repeat (first | apply Kd.S_alloc | apply Kd.S_drewN | apply Kd.S_drew)); exact HO249.out) (Kd.S_base ho0) hb)
    have n2_ := Aside0.mk (Kd.S_lower (Kd.S_new' (Kd.S_new' ho0 (Kd.S_lt (by (with_reducible repeat (first | apply Kd.S_alloc | apply Kd.S_drewN | apply Kd.S_drew)); exact HO240.out))) (Kd.S_lt (by (with_reducible repeat (first | apply Kd.S_alloc | apply Kd.S_drewN | apply Kd.S_drew)); exact HO249.out))) (below_size (bf_ HB)))
    have n3_ := bb_ BK231 hb; have n4_ := bb_ BK250 hb; have n5_ := Aside0.mk (below_step (bf_ HB) hb); clear HO240; clear HO249; clear BK231; clear BK250; clear HB; have HO240 := n0_; have HO249 := n1_; have HO259 := n2_; have BK231 := n3_; have BK250 := n4_; have HB := n5_; clear n0_ n1_ n2_ n3_ n4_ n5_; (try clear hb); (try clear hb2); (try clear hk); (try clear hi); (try clear ho0)
    obtain ⟨Ao31, co31, eo31⟩ := Kd.S_slice HO259.out
    (first | subst eo31 | (injection eo31 with f1_ f2_ f3_; have f4_ := f1_.symm; have f5_ := f3_.symm; clear f1_ f2_ f3_; subst f4_; subst f5_))
    refine hK.out _ _ ⟨bt_ BK250 0, bt_ BK250 1, bt_ BK250 2, bt_ BK250 3, bt_ BK250 4, bt_ BK250 5, bt_ BK231 0, bt_ BK231 1, bt_ BK231 2, bt_ BK231 3, bt_ BK231 4, bt_ BK231 5⟩ (fun hHeld => ?_)
    clear hK K
    refine norm_ (a' := ?_) ?_ ?_
    rotate_left
    ·show Act.put _ (some 24) _ = _
     simp only [Act.put, List.setIfInBounds_toArray, List.set_cons_zero, List.set_cons_succ, i64_w, i32_w]
     rfl
    refine one_ (i := 3) (N := some 25) (bs 5 4) rfl rfl (by kernel_rfl) (by decide) (fun K hK => ?_)
    refine goes_ Try.func29 (by kernel_rfl) rfl #[.agg #[.int .i64 t242, .int .i64 t243, .int .i64 t244, .int .i64 t245, .bool t246, .slice Ao27 t247.length co27], .agg #[.int .i64 t252, .int .i64 t253, .int .i64 t254, .int .i64 t255, .bool t256, .slice Ao31 t257.length co31]] (by rfl) rfl rfl mt_ ?_
    with_reducible refine (laws_eqBuf.calls k t242 t243 t244 t245 t246 _ _ t247 t252 t253 t254 t255 t256 _ _ t257 true _ ?side1 ?side2 ?side3 ?side4 A13.out).mono ?_
    (case side1 => repeat (first | exact (Kd.S_reads' HO249.out).2.2 | (with_reducible refine Kd.C_alloc ?_ _) | (with_reducible refine Kd.C_drewN ?_ _) | (with_reducible refine Kd.C_drew ?_)))
    (case side2 => exact (Kd.S_reads' HO249.out).2.1)
    (case side3 => repeat (first | exact (Kd.S_reads' HO259.out).2.2 | (with_reducible refine Kd.C_alloc ?_ _) | (with_reducible refine Kd.C_drewN ?_ _) | (with_reducible refine Kd.C_drew ?_)))
    (case side4 => exact (Kd.S_reads' HO259.out).2.1)
    rintro e w32 ⟨rfl, hb⟩
    refine ⟨_, rfl, ?_⟩
    have n0_ := Aside0.mk (Kd.S_below (by (with_reducible repeat (first | apply Kd.S_alloc | apply Kd.S_drewN | apply Kd.S_drew)); exact HO240.out) hb)
    have n1_ := Aside0.mk (Kd.S_below (by (with_reducible repeat (first | apply Kd.S_alloc | apply Kd.S_drewN | apply Kd.S_drew)); exact HO249.out) hb)
    have n2_ := Aside0.mk (Kd.S_below (by (with_reducible repeat (first | apply Kd.S_alloc | apply Kd.S_drewN | apply Kd.S_drew)); exact HO259.out) hb)
    have n3_ := bb_ BK231 hb; have n4_ := bb_ BK250 hb; have n5_ := Aside0.mk (below_step (bf_ HB) hb); clear HO240; clear HO249; clear HO259; clear BK231; clear BK250; clear HB; have HO240 := n0_; have HO249 := n1_; have HO259 := n2_; have BK231 := n3_; have BK250 := n4_; have HB := n5_; clear n0_ n1_ n2_ n3_ n4_ n5_; (try clear hb); (try clear hb2); (try clear hk); (try clear hi)
    refine hK.out _ _ ⟨bt_ BK250 0, bt_ BK250 1, bt_ BK250 2, bt_ BK250 3, bt_ BK250 4, bt_ BK250 5, bt_ BK231 0, bt_ BK231 1, bt_ BK231 2, bt_ BK231 3, bt_ BK231 4, bt_ BK231 5⟩ (fun hHeld => ?_)
    clear hK K
    refine norm_ (a' := ?_) ?_ ?_
    rotate_left
    ·show Act.put _ (some 25) _ = _
     simp only [Act.put, List.setIfInBounds_toArray, List.set_cons_zero, List.set_cons_succ, i64_w, i32_w]
     rfl
    refine pure_s (i := 4) (N := some 26) (bs 5 5) (by kernel_rfl) (h := ?_)
    refine done_ (by kernel_rfl) ?_
    try go_wp2
    go_ret
    exact ⟨by first | rfl | (simp [errW_none, errW_some] <;> rfl) | (simp [*, errW_none, errW_some] <;> rfl), bf_ HB⟩
   ·replace c14 := Bool.eq_false_iff.mpr c14
    subst c14
    have H1 : (some false) = some r := by rw [if_neg (show ¬ (false = true) by decide)] at H; exact H
    clear H
    have H := H1
    clear H1
    obtain rfl := Option.some.inj H
    go_enter Try.func9, Try.ntmps9
    try go_wp2_with (first | ((with_reducible refine gate_dst (N := 1) rfl ?_); refine box_event ?hg (N := 1) ?hd (cs := #[.int .i64 a0_0, .int .i64 a0_1, .int .i64 a0_2, .int .i64 a0_3, .bool a0_4, .slice A0_5 l0_5.length c0_5]) (t := 40) ?hr ?_; (case hd => rfl); (case hg => rfl); (case hr => first | (go_simp; done) | (go_simp; rfl)); intro gb231 hg w33 hbox hb; have n0_ := Aside0.mk (below_step (be_ HB) hb); have n1_ := Aside0.mk (hbox); have n2_ := gw_ HB hg; have n3_ := gw_ HB hg; clear HB; have HB := n0_; have BK231 := n1_; have GW231 := n2_; have GE231 := n3_; clear n0_ n1_ n2_ n3_; clear hb hbox hg; have hcz34_0 := bc_ BK231 0 (.int .i64 a0_0) rfl; have hcz34_1 := bc_ BK231 1 (.int .i64 a0_1) rfl; have hcz34_2 := bc_ BK231 2 (.int .i64 a0_2) rfl; have hcz34_3 := bc_ BK231 3 (.int .i64 a0_3) rfl; have hcz34_4 := bc_ BK231 4 (.bool a0_4) rfl; have hcz34_5 := bc_ BK231 5 (.slice A0_5 l0_5.length c0_5) rfl; have hfz34_0 := blk_frozen BK231.out 0; have hfz34_1 := blk_frozen BK231.out 1; have hfz34_2 := blk_frozen BK231.out 2; have hfz34_3 := blk_frozen BK231.out 3; have hfz34_4 := blk_frozen BK231.out 4; have hfz34_5 := blk_frozen BK231.out 5) | ((with_reducible refine gate_callee (f := 24) rfl ?_); refine goesL_ (some 9) rfl rfl Try.func24 (by kernel_rfl) rfl #[.agg #[.int .i64 a0_0, .int .i64 a0_1, .int .i64 a0_2, .int .i64 a0_3, .bool a0_4, .slice A0_5 l0_5.length c0_5], .int .i64 1048576] rfl mt_ ?_; (with_reducible refine (laws_szBuf.calls k a0_0 a0_1 a0_2 a0_3 a0_4 _ _ l0_5 1048576 t232 _ ?side1 ?side2 A2.out).mono ?_); (case side1 => repeat (first | exact (Kd.C_below HR0_5.out HB.out) | (with_reducible refine Kd.C_alloc ?_ _) | (with_reducible refine Kd.C_drewN ?_ _) | (with_reducible refine Kd.C_drew ?_))); (case side2 => exact HC0_5.out); rintro e w35 ⟨rfl, hb⟩; refine ⟨_, rfl, ?_⟩; have n0_ := bb_ BK231 hb; have n1_ := Aside0.mk (below_step (bf_ HB) hb); clear BK231; clear HB; have BK231 := n0_; have HB := n1_; clear n0_ n1_; (try clear hb); (try clear hb2); (try clear hk); (try clear hi); have hcz36_0 := bc_ BK231 0 (.int .i64 a0_0) rfl; have hcz36_1 := bc_ BK231 1 (.int .i64 a0_1) rfl; have hcz36_2 := bc_ BK231 2 (.int .i64 a0_2) rfl; have hcz36_3 := bc_ BK231 3 (.int .i64 a0_3) rfl; have hcz36_4 := bc_ BK231 4 (.bool a0_4) rfl; have hcz36_5 := bc_ BK231 5 (.slice A0_5 l0_5.length c0_5) rfl; have hfz36_0 := blk_frozen BK231.out 0; have hfz36_1 := blk_frozen BK231.out 1; have hfz36_2 := blk_frozen BK231.out 2; have hfz36_3 := blk_frozen BK231.out 3; have hfz36_4 := blk_frozen BK231.out 4; have hfz36_5 := blk_frozen BK231.out 5) | ((with_reducible refine gate_callee (f := 26) rfl ?_); refine goesL_ (some 13) rfl rfl Try.func26 (by kernel_rfl) rfl #[.agg #[.int .i64 a0_0, .int .i64 a0_1, .int .i64 a0_2, .int .i64 a0_3, .bool a0_4, .slice A0_5 l0_5.length c0_5]] rfl mt_ ?_; (with_reducible refine (laws_toBuf.calls k a0_0 a0_1 a0_2 a0_3 a0_4 _ _ l0_5 t233 t234 t235 t236 t237 t238 _ ?side1 ?side2 A7.out).mono ?_); (case side1 => repeat (first | exact (Kd.C_below HR0_5.out HB.out) | (with_reducible refine Kd.C_alloc ?_ _) | (with_reducible refine Kd.C_drewN ?_ _) | (with_reducible refine Kd.C_drew ?_))); (case side2 => exact HC0_5.out); rintro e w37 ⟨v239, rfl, ho0, hb⟩; refine ⟨_, rfl, ?_⟩; have n0_ := Aside0.mk (Kd.S_lower ho0 (below_size (bf_ HB))); have n1_ := bb_ BK231 hb; have n2_ := Aside0.mk (below_step (bf_ HB) hb); clear BK231; clear HB; have HO240 := n0_; have BK231 := n1_; have HB := n2_; clear n0_ n1_ n2_; (try clear hb); (try clear hb2); (try clear hk); (try clear hi); (try clear ho0); obtain ⟨Ao38, co38, eo38⟩ := Kd.S_slice HO240.out; subst eo38) | ((with_reducible refine gate_callee (f := 51) rfl ?_); refine goesL_ (some 14) rfl rfl Try.func51 (by kernel_rfl) rfl #[.agg #[.int .i64 t233, .int .i64 t234, .int .i64 t235, .int .i64 t236, .bool t237, .slice Ao38 t238.length co38]] rfl mt_ ?_; (with_reducible refine (spec_BufLongest.calls k t233 t234 t235 t236 t237 _ _ t238 t241 _ ?side1 ?side2 A8.out).mono ?_); (case side1 => repeat (first | exact (Kd.S_reads' HO240.out).2.2 | (with_reducible refine Kd.C_alloc ?_ _) | (with_reducible refine Kd.C_drewN ?_ _) | (with_reducible refine Kd.C_drew ?_))); (case side2 => exact (Kd.S_reads' HO240.out).2.1); rintro e w39 ⟨rfl, hb⟩; refine ⟨_, rfl, ?_⟩; have n0_ := Aside0.mk (Kd.S_below (by (with_reducible repeat (first | apply Kd.S_alloc | apply Kd.S_drewN | apply Kd.S_drew)); exact HO240.out) hb); have n1_ := bb_ BK231 hb; have n2_ := Aside0.mk (below_step (bf_ HB) hb); clear HO240; clear BK231; clear HB; have HO240 := n0_; have BK231 := n1_; have HB := n2_; clear n0_ n1_ n2_; (try clear hb); (try clear hb2); (try clear hk); (try clear hi); have hcz40_0 := bc_ BK231 0 (.int .i64 a0_0) rfl; have hcz40_1 := bc_ BK231 1 (.int .i64 a0_1) rfl; have hcz40_2 := bc_ BK231 2 (.int .i64 a0_2) rfl; have hcz40_3 := bc_ BK231 3 (.int .i64 a0_3) rfl; have hcz40_4 := bc_ BK231 4 (.bool a0_4) rfl; have hcz40_5 := bc_ BK231 5 (.slice A0_5 l0_5.length c0_5) rfl; have hfz40_0 := blk_frozen BK231.out 0; have hfz40_1 := blk_frozen BK231.out 1; have hfz40_2 := blk_frozen BK231.out 2; have hfz40_3 := blk_frozen BK231.out 3; have hfz40_4 := blk_frozen BK231.out 4; have hfz40_5 := blk_frozen BK231.out 5) | ((with_reducible refine gate_callee (f := 26) rfl ?_); refine goesL_ (some 16) rfl rfl Try.func26 (by kernel_rfl) rfl #[.agg #[.int .i64 a0_0, .int .i64 a0_1, .int .i64 a0_2, .int .i64 a0_3, .bool a0_4, .slice A0_5 l0_5.length c0_5]] rfl mt_ ?_; (with_reducible refine (laws_toBuf.calls k a0_0 a0_1 a0_2 a0_3 a0_4 _ _ l0_5 t242 t243 t244 t245 t246 t247 _ ?side1 ?side2 A9.out).mono ?_); (case side1 => repeat (first | exact (Kd.C_below HR0_5.out HB.out) | (with_reducible refine Kd.C_alloc ?_ _) | (with_reducible refine Kd.C_drewN ?_ _) | (with_reducible refine Kd.C_drew ?_))); (case side2 => exact HC0_5.out); rintro e w41 ⟨v248, rfl, ho0, hb⟩; refine ⟨_, rfl, ?_⟩; have n0_ := Aside0.mk (Kd.S_elder' (by (with_reducible repeat (first | apply Kd.S_alloc | apply Kd.S_drewN | apply Kd.S_drew)); exact HO240.out) (Kd.S_base ho0) hb); have n1_ := Aside0.mk (Kd.S_lower (Kd.S_new' ho0 (Kd.S_lt (by (with_reducible repeat (first | apply Kd.S_alloc | apply Kd.S_drewN | apply Kd.S_drew)); exact HO240.out))) (below_size (bf_ HB))); have n2_ := bb_ BK231 hb; have n3_ := Aside0.mk (below_step (bf_ HB) hb); clear HO240; clear BK231; clear HB; have HO240 := n0_; have HO249 := n1_; have BK231 := n2_; have HB := n3_; clear n0_ n1_ n2_ n3_; (try clear hb); (try clear hb2); (try clear hk); (try clear hi); (try clear ho0)) | ((with_reducible refine gate_dst (N := 5) rfl ?_); refine box_event ?hg (N := 5) ?hd (cs := #[.int .i64 0, .int .i64 0, .int .i64 0, .int .i64 0, .bool false, .slice none 0 0]) (t := 47) ?hr ?_; (case hd => rfl); (case hg => rfl); (case hr => first | (go_simp; done) | (go_simp; rfl)); intro gb250 hg w42 hbox hb; have n0_ := Aside0.mk (Kd.S_below (by (with_reducible repeat (first | apply Kd.S_alloc | apply Kd.S_drewN | apply Kd.S_drew)); exact HO240.out) hb); have n1_ := Aside0.mk (Kd.S_below (by (with_reducible repeat (first | apply Kd.S_alloc | apply Kd.S_drewN | apply Kd.S_drew)); exact HO249.out) hb); have n2_ := bb_ BK231 hb; have n3_ := Aside0.mk (below_step (bf_ HB) hb); have n4_ := Aside0.mk (hbox); have n5_ := gw_ HB hg; have n6_ := gw_ HB hg; have n7_ := nl_ BK231 hg; have n8_ := ng_ BK231 hg; clear HO240; clear HO249; clear BK231; clear HB; have HO240 := n0_; have HO249 := n1_; have BK231 := n2_; have HB := n3_; have BK250 := n4_; have GW250 := n5_; have GE250 := n6_; have NB231_250 := n7_; have NB250_231 := n8_; clear n0_ n1_ n2_ n3_ n4_ n5_ n6_ n7_ n8_; clear hb hbox hg; have hnb43 := NB250_231.out; have hnc43 := NB231_250.out; have hcz44_0 := bc_ BK250 0 (.int .i64 0) rfl; have hcz44_1 := bc_ BK250 1 (.int .i64 0) rfl; have hcz44_2 := bc_ BK250 2 (.int .i64 0) rfl; have hcz44_3 := bc_ BK250 3 (.int .i64 0) rfl; have hcz44_4 := bc_ BK250 4 (.bool false) rfl; have hcz44_5 := bc_ BK250 5 (.slice none 0 0) rfl; have hfz44_0 := blk_frozen BK250.out 0; have hfz44_1 := blk_frozen BK250.out 1; have hfz44_2 := blk_frozen BK250.out 2; have hfz44_3 := blk_frozen BK250.out 3; have hfz44_4 := blk_frozen BK250.out 4; have hfz44_5 := blk_frozen BK250.out 5; obtain ⟨Ao45, co45, eo45⟩ := Kd.S_slice HO249.out; subst eo45) | ((with_reducible refine gate_callee (f := 52) rfl ?_); refine goesL_ (some 18) rfl rfl Try.func52 (by kernel_rfl) rfl #[.agg #[.int .i64 t242, .int .i64 t243, .int .i64 t244, .int .i64 t245, .bool t246, .slice Ao45 t247.length co45]] rfl mt_ ?_; (with_reducible refine (impl_BufLongest.calls k t242 t243 t244 t245 t246 _ _ t247 t251 _ ?side1 ?side2 A10.out).mono ?_); (case side1 => refine (Kd.S_reads' (e := 80) (base := w.heap.size) (ok := fun k_ => (True ∧ some k_ ≠ (.slice Ao38 t238.length co38 : Value).ownBlock)) (n := t247.length) (c := co45) ?_).2.2; exact (by (with_reducible repeat (first | apply Kd.S_alloc | apply Kd.S_drewN | apply Kd.S_drew)); exact (Kd.S_mono (Kd.S_far (p := ⟨gb250, 5, none⟩) (Kd.S_far (p := ⟨gb250, 4, none⟩) (Kd.S_far (p := ⟨gb250, 3, none⟩) (Kd.S_far (p := ⟨gb250, 2, none⟩) (Kd.S_far (p := ⟨gb250, 1, none⟩) (Kd.S_far (p := ⟨gb250, 0, none⟩) (Kd.S_types HO249.out BK250.out (by decide)) (fun _ hk => by first | exact hk.2 | grind) (.int .i64 t242)) (fun _ hk => by first | exact hk.2 | grind) (.int .i64 t243)) (fun _ hk => by first | exact hk.2 | grind) (.int .i64 t244)) (fun _ hk => by first | exact hk.2 | grind) (.int .i64 t245)) (fun _ hk => by first | exact hk.2 | grind) (.bool t246)) (fun _ hk => by first | exact hk.2 | grind) (.slice Ao45 t247.length co45)) (fun _ h_ => h_.1)))); (case side2 => exact (Kd.S_reads' HO249.out).2.1); rintro e w46 ⟨rfl, hb⟩; refine ⟨_, rfl, ?_⟩; have n0_ := Aside0.mk (Kd.S_below (by (with_reducible repeat (first | apply Kd.S_alloc | apply Kd.S_drewN | apply Kd.S_drew)); exact (Kd.S_mono (Kd.S_far (p := ⟨gb250, 5, none⟩) (Kd.S_far (p := ⟨gb250, 4, none⟩) (Kd.S_far (p := ⟨gb250, 3, none⟩) (Kd.S_far (p := ⟨gb250, 2, none⟩) (Kd.S_far (p := ⟨gb250, 1, none⟩) (Kd.S_far (p := ⟨gb250, 0, none⟩) (Kd.S_types HO240.out BK250.out (by decide)) (fun _ hk => by first | exact hk.2 | grind) (.int .i64 t242)) (fun _ hk => by first | exact hk.2 | grind) (.int .i64 t243)) (fun _ hk => by first | exact hk.2 | grind) (.int .i64 t244)) (fun _ hk => by first | exact hk.2 | grind) (.int .i64 t245)) (fun _ hk => by first | exact hk.2 | grind) (.bool t246)) (fun _ hk => by first | exact hk.2 | grind) (.slice Ao45 t247.length co45)) (fun _ h_ => h_.1))) hb); have n1_ := Aside0.mk (Kd.S_below (by (with_reducible repeat (first | apply Kd.S_alloc | apply Kd.S_drewN | apply Kd.S_drew)); exact (Kd.S_mono (Kd.S_far (p := ⟨gb250, 5, none⟩) (Kd.S_far (p := ⟨gb250, 4, none⟩) (Kd.S_far (p := ⟨gb250, 3, none⟩) (Kd.S_far (p := ⟨gb250, 2, none⟩) (Kd.S_far (p := ⟨gb250, 1, none⟩) (Kd.S_far (p := ⟨gb250, 0, none⟩) (Kd.S_types HO249.out BK250.out (by decide)) (fun _ hk => by first | exact hk.2 | grind) (.int .i64 t242)) (fun _ hk => by first | exact hk.2 | grind) (.int .i64 t243)) (fun _ hk => by first | exact hk.2 | grind) (.int .i64 t244)) (fun _ hk => by first | exact hk.2 | grind) (.int .i64 t245)) (fun _ hk => by first | exact hk.2 | grind) (.bool t246)) (fun _ hk => by first | exact hk.2 | grind) (.slice Ao45 t247.length co45)) (fun _ h_ => h_.1))) hb); have n2_ := bm_ BK231 hb; have n3_ := Aside0.mk (blk_below (g := gb250) (o := .cells #[.int .i64 t242, .int .i64 t243, .int .i64 t244, .int .i64 t245, .bool t246, .slice Ao45 t247.length co45] 47 (0, 0)) (by (with_reducible repeat (first | refine blk_drewN ?_ _ | refine blk_drew ?_ | refine blk_alloc ?_ _)); refine blk_put (cs := #[.int .i64 t242, .int .i64 t243, .int .i64 t244, .int .i64 t245, .bool t246, .slice none 0 0]) ?_ 5 _ rfl; (with_reducible repeat (first | refine blk_drewN ?_ _ | refine blk_drew ?_ | refine blk_alloc ?_ _)); refine blk_put (cs := #[.int .i64 t242, .int .i64 t243, .int .i64 t244, .int .i64 t245, .bool false, .slice none 0 0]) ?_ 4 _ rfl; (with_reducible repeat (first | refine blk_drewN ?_ _ | refine blk_drew ?_ | refine blk_alloc ?_ _)); refine blk_put (cs := #[.int .i64 t242, .int .i64 t243, .int .i64 t244, .int .i64 0, .bool false, .slice none 0 0]) ?_ 3 _ rfl; (with_reducible repeat (first | refine blk_drewN ?_ _ | refine blk_drew ?_ | refine blk_alloc ?_ _)); refine blk_put (cs := #[.int .i64 t242, .int .i64 t243, .int .i64 0, .int .i64 0, .bool false, .slice none 0 0]) ?_ 2 _ rfl; (with_reducible repeat (first | refine blk_drewN ?_ _ | refine blk_drew ?_ | refine blk_alloc ?_ _)); refine blk_put (cs := #[.int .i64 t242, .int .i64 0, .int .i64 0, .int .i64 0, .bool false, .slice none 0 0]) ?_ 1 _ rfl; (with_reducible repeat (first | refine blk_drewN ?_ _ | refine blk_drew ?_ | refine blk_alloc ?_ _)); refine blk_put (cs := #[.int .i64 0, .int .i64 0, .int .i64 0, .int .i64 0, .bool false, .slice none 0 0]) ?_ 0 _ rfl; exact bk_ BK250) hb); have n4_ := Aside0.mk (below_step (bf_ HB) hb); clear HO240; clear HO249; clear BK231; clear BK250; clear HB; have HO240 := n0_; have HO249 := n1_; have BK231 := n2_; have BK250 := n3_; have HB := n4_; clear n0_ n1_ n2_ n3_ n4_; (try clear hb); (try clear hb2); (try clear hk); (try clear hi)))
    have n0_ := Aside0.mk (Kd.S_drew HO240.out); have n1_ := Aside0.mk (Kd.S_drew HO249.out); have n2_ := Aside0.mk (blk_drew BK231.out); have n3_ := Aside0.mk (blk_drew BK250.out); have n4_ := Aside0.mk (below_drew1 HB.out); clear HO240; clear HO249; clear BK231; clear BK250; clear HB; have HO240 := n0_; have HO249 := n1_; have BK231 := n2_; have BK250 := n3_; have HB := n4_; clear n0_ n1_ n2_ n3_ n4_
    refine start_ (n := 5) (S := fun w' => w'.cell? ⟨gb250, 0, none⟩ = some (.int .i64 t242) ∧ w'.cell? ⟨gb250, 1, none⟩ = some (.int .i64 t243) ∧ w'.cell? ⟨gb250, 2, none⟩ = some (.int .i64 t244) ∧ w'.cell? ⟨gb250, 3, none⟩ = some (.int .i64 t245) ∧ w'.cell? ⟨gb250, 4, none⟩ = some (.bool t246) ∧ w'.cell? ⟨gb250, 5, none⟩ = some (.slice Ao45 t247.length co45) ∧ w'.cell? ⟨gb231, 0, none⟩ = some (.int .i64 a0_0) ∧ w'.cell? ⟨gb231, 1, none⟩ = some (.int .i64 a0_1) ∧ w'.cell? ⟨gb231, 2, none⟩ = some (.int .i64 a0_2) ∧ w'.cell? ⟨gb231, 3, none⟩ = some (.int .i64 a0_3) ∧ w'.cell? ⟨gb231, 4, none⟩ = some (.bool a0_4) ∧ w'.cell? ⟨gb231, 5, none⟩ = some (.slice A0_5 l0_5.length c0_5)) (ds := []) (bs 5 0) (by kernel_rfl) rfl rfl ⟨bt_ BK250 0, bt_ BK250 1, bt_ BK250 2, bt_ BK250 3, bt_ BK250 4, bt_ BK250 5, bt_ BK231 0, bt_ BK231 1, bt_ BK231 2, bt_ BK231 3, bt_ BK231 4, bt_ BK231 5⟩ (fun hHeld => ?_)
    generalize w46.drew = w47 at HO240 HO249 BK231 BK250 HB hHeld ⊢
    refine take_ (i := 0) (N := some 22) (v := ?_) (a' := ?_) (bs 5 1) rfl rfl (by kernel_rfl) (fun _ _ _ h => h) (Or.inl ⟨by rfl, ?_⟩) hHeld ?_ ?_
    rotate_left
    ·rintro w' ⟨s0, s1, s2, s3, s4, s5, s6, s7, s8, s9, s10, s11⟩
     go_simp
     with_reducible rfl
    rotate_left
    ·simp only [Act.put, List.setIfInBounds_toArray, List.set_cons_zero, List.set_cons_succ, i64_w, i32_w]
     rfl
    refine take_ (i := 1) (N := some 23) (v := ?_) (a' := ?_) (bs 5 2) rfl rfl (by kernel_rfl) (fun _ _ _ h => h) (Or.inl ⟨by rfl, ?_⟩) hHeld ?_ ?_
    rotate_left
    ·rintro w' ⟨s0, s1, s2, s3, s4, s5, s6, s7, s8, s9, s10, s11⟩
     go_simp
     with_reducible rfl
    rotate_left
    ·simp only [Act.put, List.setIfInBounds_toArray, List.set_cons_zero, List.set_cons_succ, i64_w, i32_w]
     rfl
    refine one_ (i := 2) (N := some 24) (bs 5 3) rfl rfl (by kernel_rfl) (by decide) (fun K hK => ?_)
    refine goes_ Try.func26 (by kernel_rfl) rfl #[.agg #[.int .i64 a0_0, .int .i64 a0_1, .int .i64 a0_2, .int .i64 a0_3, .bool a0_4, .slice A0_5 l0_5.length c0_5]] (by rfl) rfl rfl mt_ ?_
    with_reducible refine (laws_toBuf.calls k a0_0 a0_1 a0_2 a0_3 a0_4 _ _ l0_5 t252 t253 t254 t255 t256 t257 _ ?side1 ?side2 A12.out).mono ?_
    (case side1 => repeat (first | exact (Kd.C_below HR0_5.out HB.out) | (with_reducible refine Kd.C_alloc ?_ _) | (with_reducible refine Kd.C_drewN ?_ _) | (with_reducible refine Kd.C_drew ?_)))
    (case side2 => exact HC0_5.out)
    rintro e w48 ⟨v258, rfl, ho0, hb⟩
    refine ⟨_, rfl, ?_⟩
    have n0_ := Aside0.mk (Kd.S_elder' (by (with_reducible repeat (first | apply Kd.S_alloc | apply Kd.S_drewN | apply Kd.S_drew)); exact HO240.out) (Kd.S_base ho0) hb)
    have n1_ := Aside0.mk (Kd.S_elder' (by (with_reducible repeat (first | apply Kd.S_alloc | apply Kd.S_drewN | apply Kd.S_drew)); exact HO249.out) (Kd.S_base ho0) hb)
    have n2_ := Aside0.mk (Kd.S_lower (Kd.S_new' (Kd.S_new' ho0 (Kd.S_lt (by (with_reducible repeat (first | apply Kd.S_alloc | apply Kd.S_drewN | apply Kd.S_drew)); exact HO240.out))) (Kd.S_lt (by (with_reducible repeat (first | apply Kd.S_alloc | apply Kd.S_drewN | apply Kd.S_drew)); exact HO249.out))) (below_size (bf_ HB)))
    have n3_ := bb_ BK231 hb; have n4_ := bb_ BK250 hb; have n5_ := Aside0.mk (below_step (bf_ HB) hb); clear HO240; clear HO249; clear BK231; clear BK250; clear HB; have HO240 := n0_; have HO249 := n1_; have HO259 := n2_; have BK231 := n3_; have BK250 := n4_; have HB := n5_; clear n0_ n1_ n2_ n3_ n4_ n5_; (try clear hb); (try clear hb2); (try clear hk); (try clear hi); (try clear ho0)
    obtain ⟨Ao49, co49, eo49⟩ := Kd.S_slice HO259.out
    (first | subst eo49 | (injection eo49 with f1_ f2_ f3_; have f4_ := f1_.symm; have f5_ := f3_.symm; clear f1_ f2_ f3_; subst f4_; subst f5_))
    refine hK.out _ _ ⟨bt_ BK250 0, bt_ BK250 1, bt_ BK250 2, bt_ BK250 3, bt_ BK250 4, bt_ BK250 5, bt_ BK231 0, bt_ BK231 1, bt_ BK231 2, bt_ BK231 3, bt_ BK231 4, bt_ BK231 5⟩ (fun hHeld => ?_)
    clear hK K
    refine norm_ (a' := ?_) ?_ ?_
    rotate_left
    ·show Act.put _ (some 24) _ = _
     simp only [Act.put, List.setIfInBounds_toArray, List.set_cons_zero, List.set_cons_succ, i64_w, i32_w]
     rfl
    refine one_ (i := 3) (N := some 25) (bs 5 4) rfl rfl (by kernel_rfl) (by decide) (fun K hK => ?_)
    refine goes_ Try.func29 (by kernel_rfl) rfl #[.agg #[.int .i64 t242, .int .i64 t243, .int .i64 t244, .int .i64 t245, .bool t246, .slice Ao45 t247.length co45], .agg #[.int .i64 t252, .int .i64 t253, .int .i64 t254, .int .i64 t255, .bool t256, .slice Ao49 t257.length co49]] (by rfl) rfl rfl mt_ ?_
    with_reducible refine (laws_eqBuf.calls k t242 t243 t244 t245 t246 _ _ t247 t252 t253 t254 t255 t256 _ _ t257 false _ ?side1 ?side2 ?side3 ?side4 A13.out).mono ?_
    (case side1 => repeat (first | exact (Kd.S_reads' HO249.out).2.2 | (with_reducible refine Kd.C_alloc ?_ _) | (with_reducible refine Kd.C_drewN ?_ _) | (with_reducible refine Kd.C_drew ?_)))
    (case side2 => exact (Kd.S_reads' HO249.out).2.1)
    (case side3 => repeat (first | exact (Kd.S_reads' HO259.out).2.2 | (with_reducible refine Kd.C_alloc ?_ _) | (with_reducible refine Kd.C_drewN ?_ _) | (with_reducible refine Kd.C_drew ?_)))
    (case side4 => exact (Kd.S_reads' HO259.out).2.1)
    rintro e w50 ⟨rfl, hb⟩
    refine ⟨_, rfl, ?_⟩
    have n0_ := Aside0.mk (Kd.S_below (by (with_reducible repeat (first | apply Kd.S_alloc | apply Kd.S_drewN | apply Kd.S_drew)); exact HO240.out) hb)
    have n1_ := Aside0.mk (Kd.S_below (by (with_reducible repeat (first | apply Kd.S_alloc | apply Kd.S_drewN | apply Kd.S_drew)); exact HO249.out) hb)
    have n2_ := Aside0.mk (Kd.S_below (by (with_reducible repeat (first | apply Kd.S_alloc | apply Kd.S_drewN | apply Kd.S_drew)); exact HO259.out) hb)
    have n3_ := bb_ BK231 hb; have n4_ := bb_ BK250 hb; have n5_ := Aside0.mk (below_step (bf_ HB) hb); clear HO240; clear HO249; clear HO259; clear BK231; clear BK250; clear HB; have HO240 := n0_; have HO249 := n1_; have HO259 := n2_; have BK231 := n3_; have BK250 := n4_; have HB := n5_; clear n0_ n1_ n2_ n3_ n4_ n5_; (try clear hb); (try clear hb2); (try clear hk); (try clear hi)
    refine hK.out _ _ ⟨bt_ BK250 0, bt_ BK250 1, bt_ BK250 2, bt_ BK250 3, bt_ BK250 4, bt_ BK250 5, bt_ BK231 0, bt_ BK231 1, bt_ BK231 2, bt_ BK231 3, bt_ BK231 4, bt_ BK231 5⟩ (fun hHeld => ?_)
    clear hK K
    refine norm_ (a' := ?_) ?_ ?_
    rotate_left
    ·show Act.put _ (some 25) _ = _
     simp only [Act.put, List.setIfInBounds_toArray, List.set_cons_zero, List.set_cons_succ, i64_w, i32_w]
     rfl
    refine pure_s (i := 4) (N := some 26) (bs 5 5) (by kernel_rfl) (h := ?_)
    refine done_ (by kernel_rfl) ?_
    try go_wp2
    go_ret
    exact ⟨by first | rfl | (simp [errW_none, errW_some] <;> rfl) | (simp [*, errW_none, errW_some] <;> rfl), bf_ HB⟩
  ·rw [if_neg c11] at H
   have c11b0 : (t251 == t241) = false := beq_eq_false_iff_ne.mpr c11
   have c11b1 : (t251 != t241) = true := bne_iff_ne.mpr c11
   obtain rfl := Option.some.inj H
   go_enter Try.func9, Try.ntmps9
   go_wp2_with (first | ((with_reducible refine gate_dst (N := 1) rfl ?_); refine box_event ?hg (N := 1) ?hd (cs := #[.int .i64 a0_0, .int .i64 a0_1, .int .i64 a0_2, .int .i64 a0_3, .bool a0_4, .slice A0_5 l0_5.length c0_5]) (t := 40) ?hr ?_; (case hd => rfl); (case hg => rfl); (case hr => first | (go_simp; done) | (go_simp; rfl)); intro gb231 hg w51 hbox hb; have n0_ := Aside0.mk (below_step (be_ HB) hb); have n1_ := Aside0.mk (hbox); have n2_ := gw_ HB hg; have n3_ := gw_ HB hg; clear HB; have HB := n0_; have BK231 := n1_; have GW231 := n2_; have GE231 := n3_; clear n0_ n1_ n2_ n3_; clear hb hbox hg; have hcz52_0 := bc_ BK231 0 (.int .i64 a0_0) rfl; have hcz52_1 := bc_ BK231 1 (.int .i64 a0_1) rfl; have hcz52_2 := bc_ BK231 2 (.int .i64 a0_2) rfl; have hcz52_3 := bc_ BK231 3 (.int .i64 a0_3) rfl; have hcz52_4 := bc_ BK231 4 (.bool a0_4) rfl; have hcz52_5 := bc_ BK231 5 (.slice A0_5 l0_5.length c0_5) rfl; have hfz52_0 := blk_frozen BK231.out 0; have hfz52_1 := blk_frozen BK231.out 1; have hfz52_2 := blk_frozen BK231.out 2; have hfz52_3 := blk_frozen BK231.out 3; have hfz52_4 := blk_frozen BK231.out 4; have hfz52_5 := blk_frozen BK231.out 5) | ((with_reducible refine gate_callee (f := 24) rfl ?_); refine goesL_ (some 9) rfl rfl Try.func24 (by kernel_rfl) rfl #[.agg #[.int .i64 a0_0, .int .i64 a0_1, .int .i64 a0_2, .int .i64 a0_3, .bool a0_4, .slice A0_5 l0_5.length c0_5], .int .i64 1048576] rfl mt_ ?_; (with_reducible refine (laws_szBuf.calls k a0_0 a0_1 a0_2 a0_3 a0_4 _ _ l0_5 1048576 t232 _ ?side1 ?side2 A2.out).mono ?_); (case side1 => repeat (first | exact (Kd.C_below HR0_5.out HB.out) | (with_reducible refine Kd.C_alloc ?_ _) | (with_reducible refine Kd.C_drewN ?_ _) | (with_reducible refine Kd.C_drew ?_))); (case side2 => exact HC0_5.out); rintro e w53 ⟨rfl, hb⟩; refine ⟨_, rfl, ?_⟩; have n0_ := bb_ BK231 hb; have n1_ := Aside0.mk (below_step (bf_ HB) hb); clear BK231; clear HB; have BK231 := n0_; have HB := n1_; clear n0_ n1_; (try clear hb); (try clear hb2); (try clear hk); (try clear hi); have hcz54_0 := bc_ BK231 0 (.int .i64 a0_0) rfl; have hcz54_1 := bc_ BK231 1 (.int .i64 a0_1) rfl; have hcz54_2 := bc_ BK231 2 (.int .i64 a0_2) rfl; have hcz54_3 := bc_ BK231 3 (.int .i64 a0_3) rfl; have hcz54_4 := bc_ BK231 4 (.bool a0_4) rfl; have hcz54_5 := bc_ BK231 5 (.slice A0_5 l0_5.length c0_5) rfl; have hfz54_0 := blk_frozen BK231.out 0; have hfz54_1 := blk_frozen BK231.out 1; have hfz54_2 := blk_frozen BK231.out 2; have hfz54_3 := blk_frozen BK231.out 3; have hfz54_4 := blk_frozen BK231.out 4; have hfz54_5 := blk_frozen BK231.out 5) | ((with_reducible refine gate_callee (f := 26) rfl ?_); refine goesL_ (some 13) rfl rfl Try.func26 (by kernel_rfl) rfl #[.agg #[.int .i64 a0_0, .int .i64 a0_1, .int .i64 a0_2, .int .i64 a0_3, .bool a0_4, .slice A0_5 l0_5.length c0_5]] rfl mt_ ?_; (with_reducible refine (laws_toBuf.calls k a0_0 a0_1 a0_2 a0_3 a0_4 _ _ l0_5 t233 t234 t235 t236 t237 t238 _ ?side1 ?side2 A7.out).mono ?_); (case side1 => repeat (first | exact (Kd.C_below HR0_5.out HB.out) | (with_reducible refine Kd.C_alloc ?_ _) | (with_reducible refine Kd.C_drewN ?_ _) | (with_reducible refine Kd.C_drew ?_))); (case side2 => exact HC0_5.out); rintro e w55 ⟨v239, rfl, ho0, hb⟩; refine ⟨_, rfl, ?_⟩; have n0_ := Aside0.mk (Kd.S_lower ho0 (below_size (bf_ HB))); have n1_ := bb_ BK231 hb; have n2_ := Aside0.mk (below_step (bf_ HB) hb); clear BK231; clear HB; have HO240 := n0_; have BK231 := n1_; have HB := n2_; clear n0_ n1_ n2_; (try clear hb); (try clear hb2); (try clear hk); (try clear hi); (try clear ho0); obtain ⟨Ao56, co56, eo56⟩ := Kd.S_slice HO240.out; subst eo56) | ((with_reducible refine gate_callee (f := 51) rfl ?_); refine goesL_ (some 14) rfl rfl Try.func51 (by kernel_rfl) rfl #[.agg #[.int .i64 t233, .int .i64 t234, .int .i64 t235, .int .i64 t236, .bool t237, .slice Ao56 t238.length co56]] rfl mt_ ?_; (with_reducible refine (spec_BufLongest.calls k t233 t234 t235 t236 t237 _ _ t238 t241 _ ?side1 ?side2 A8.out).mono ?_); (case side1 => repeat (first | exact (Kd.S_reads' HO240.out).2.2 | (with_reducible refine Kd.C_alloc ?_ _) | (with_reducible refine Kd.C_drewN ?_ _) | (with_reducible refine Kd.C_drew ?_))); (case side2 => exact (Kd.S_reads' HO240.out).2.1); rintro e w57 ⟨rfl, hb⟩; refine ⟨_, rfl, ?_⟩; have n0_ := Aside0.mk (Kd.S_below (by (with_reducible repeat (first | apply Kd.S_alloc | apply Kd.S_drewN | apply Kd.S_drew)); exact HO240.out) hb); have n1_ := bb_ BK231 hb; have n2_ := Aside0.mk (below_step (bf_ HB) hb); clear HO240; clear BK231; clear HB; have HO240 := n0_; have BK231 := n1_; have HB := n2_; clear n0_ n1_ n2_; (try clear hb); (try clear hb2); (try clear hk); (try clear hi); have hcz58_0 := bc_ BK231 0 (.int .i64 a0_0) rfl; have hcz58_1 := bc_ BK231 1 (.int .i64 a0_1) rfl; have hcz58_2 := bc_ BK231 2 (.int .i64 a0_2) rfl; have hcz58_3 := bc_ BK231 3 (.int .i64 a0_3) rfl; have hcz58_4 := bc_ BK231 4 (.bool a0_4) rfl; have hcz58_5 := bc_ BK231 5 (.slice A0_5 l0_5.length c0_5) rfl; have hfz58_0 := blk_frozen BK231.out 0; have hfz58_1 := blk_frozen BK231.out 1; have hfz58_2 := blk_frozen BK231.out 2; have hfz58_3 := blk_frozen BK231.out 3; have hfz58_4 := blk_frozen BK231.out 4; have hfz58_5 := blk_frozen BK231.out 5) | ((with_reducible refine gate_callee (f := 26) rfl ?_); refine goesL_ (some 16) rfl rfl Try.func26 (by kernel_rfl) rfl #[.agg #[.int .i64 a0_0, .int .i64 a0_1, .int .i64 a0_2, .int .i64 a0_3, .bool a0_4, .slice A0_5 l0_5.length c0_5]] rfl mt_ ?_; (with_reducible refine (laws_toBuf.calls k a0_0 a0_1 a0_2 a0_3 a0_4 _ _ l0_5 t242 t243 t244 t245 t246 t247 _ ?side1 ?side2 A9.out).mono ?_); (case side1 => repeat (first | exact (Kd.C_below HR0_5.out HB.out) | (with_reducible refine Kd.C_alloc ?_ _) | (with_reducible refine Kd.C_drewN ?_ _) | (with_reducible refine Kd.C_drew ?_))); (case side2 => exact HC0_5.out); rintro e w59 ⟨v248, rfl, ho0, hb⟩; refine ⟨_, rfl, ?_⟩; have n0_ := Aside0.mk (Kd.S_elder' (by (with_reducible repeat (first | apply Kd.S_alloc | apply Kd.S_drewN | apply Kd.S_drew)); exact HO240.out) (Kd.S_base ho0) hb); have n1_ := Aside0.mk (Kd.S_lower (Kd.S_new' ho0 (Kd.S_lt (by (with_reducible repeat (first | apply Kd.S_alloc | apply Kd.S_drewN | apply Kd.S_drew)); exact HO240.out))) (below_size (bf_ HB))); have n2_ := bb_ BK231 hb; have n3_ := Aside0.mk (below_step (bf_ HB) hb); clear HO240; clear BK231; clear HB; have HO240 := n0_; have HO249 := n1_; have BK231 := n2_; have HB := n3_; clear n0_ n1_ n2_ n3_; (try clear hb); (try clear hb2); (try clear hk); (try clear hi); (try clear ho0)) | ((with_reducible refine gate_dst (N := 5) rfl ?_); refine box_event ?hg (N := 5) ?hd (cs := #[.int .i64 0, .int .i64 0, .int .i64 0, .int .i64 0, .bool false, .slice none 0 0]) (t := 47) ?hr ?_; (case hd => rfl); (case hg => rfl); (case hr => first | (go_simp; done) | (go_simp; rfl)); intro gb250 hg w60 hbox hb; have n0_ := Aside0.mk (Kd.S_below (by (with_reducible repeat (first | apply Kd.S_alloc | apply Kd.S_drewN | apply Kd.S_drew)); exact HO240.out) hb); have n1_ := Aside0.mk (Kd.S_below (by (with_reducible repeat (first | apply Kd.S_alloc | apply Kd.S_drewN | apply Kd.S_drew)); exact HO249.out) hb); have n2_ := bb_ BK231 hb; have n3_ := Aside0.mk (below_step (bf_ HB) hb); have n4_ := Aside0.mk (hbox); have n5_ := gw_ HB hg; have n6_ := gw_ HB hg; have n7_ := nl_ BK231 hg; have n8_ := ng_ BK231 hg; clear HO240; clear HO249; clear BK231; clear HB; have HO240 := n0_; have HO249 := n1_; have BK231 := n2_; have HB := n3_; have BK250 := n4_; have GW250 := n5_; have GE250 := n6_; have NB231_250 := n7_; have NB250_231 := n8_; clear n0_ n1_ n2_ n3_ n4_ n5_ n6_ n7_ n8_; clear hb hbox hg; have hnb61 := NB250_231.out; have hnc61 := NB231_250.out; have hcz62_0 := bc_ BK250 0 (.int .i64 0) rfl; have hcz62_1 := bc_ BK250 1 (.int .i64 0) rfl; have hcz62_2 := bc_ BK250 2 (.int .i64 0) rfl; have hcz62_3 := bc_ BK250 3 (.int .i64 0) rfl; have hcz62_4 := bc_ BK250 4 (.bool false) rfl; have hcz62_5 := bc_ BK250 5 (.slice none 0 0) rfl; have hfz62_0 := blk_frozen BK250.out 0; have hfz62_1 := blk_frozen BK250.out 1; have hfz62_2 := blk_frozen BK250.out 2; have hfz62_3 := blk_frozen BK250.out 3; have hfz62_4 := blk_frozen BK250.out 4; have hfz62_5 := blk_frozen BK250.out 5; obtain ⟨Ao63, co63, eo63⟩ := Kd.S_slice HO249.out; subst eo63) | ((with_reducible refine gate_callee (f := 52) rfl ?_); refine goesL_ (some 18) rfl rfl Try.func52 (by kernel_rfl) rfl #[.agg #[.int .i64 t242, .int .i64 t243, .int .i64 t244, .int .i64 t245, .bool t246, .slice Ao63 t247.length co63]] rfl mt_ ?_; (with_reducible refine (impl_BufLongest.calls k t242 t243 t244 t245 t246 _ _ t247 t251 _ ?side1 ?side2 A10.out).mono ?_); (case side1 => refine (Kd.S_reads' (e := 80) (base := w.heap.size) (ok := fun k_ => (True ∧ some k_ ≠ (.slice Ao56 t238.length co56 : Value).ownBlock)) (n := t247.length) (c := co63) ?_).2.2; exact (by (with_reducible repeat (first | apply Kd.S_alloc | apply Kd.S_drewN | apply Kd.S_drew)); exact (Kd.S_mono (Kd.S_far (p := ⟨gb250, 5, none⟩) (Kd.S_far (p := ⟨gb250, 4, none⟩) (Kd.S_far (p := ⟨gb250, 3, none⟩) (Kd.S_far (p := ⟨gb250, 2, none⟩) (Kd.S_far (p := ⟨gb250, 1, none⟩) (Kd.S_far (p := ⟨gb250, 0, none⟩) (Kd.S_types HO249.out BK250.out (by decide)) (fun _ hk => by first | exact hk.2 | grind) (.int .i64 t242)) (fun _ hk => by first | exact hk.2 | grind) (.int .i64 t243)) (fun _ hk => by first | exact hk.2 | grind) (.int .i64 t244)) (fun _ hk => by first | exact hk.2 | grind) (.int .i64 t245)) (fun _ hk => by first | exact hk.2 | grind) (.bool t246)) (fun _ hk => by first | exact hk.2 | grind) (.slice Ao63 t247.length co63)) (fun _ h_ => h_.1)))); (case side2 => exact (Kd.S_reads' HO249.out).2.1); rintro e w64 ⟨rfl, hb⟩; refine ⟨_, rfl, ?_⟩; have n0_ := Aside0.mk (Kd.S_below (by (with_reducible repeat (first | apply Kd.S_alloc | apply Kd.S_drewN | apply Kd.S_drew)); exact (Kd.S_mono (Kd.S_far (p := ⟨gb250, 5, none⟩) (Kd.S_far (p := ⟨gb250, 4, none⟩) (Kd.S_far (p := ⟨gb250, 3, none⟩) (Kd.S_far (p := ⟨gb250, 2, none⟩) (Kd.S_far (p := ⟨gb250, 1, none⟩) (Kd.S_far (p := ⟨gb250, 0, none⟩) (Kd.S_types HO240.out BK250.out (by decide)) (fun _ hk => by first | exact hk.2 | grind) (.int .i64 t242)) (fun _ hk => by first | exact hk.2 | grind) (.int .i64 t243)) (fun _ hk => by first | exact hk.2 | grind) (.int .i64 t244)) (fun _ hk => by first | exact hk.2 | grind) (.int .i64 t245)) (fun _ hk => by first | exact hk.2 | grind) (.bool t246)) (fun _ hk => by first | exact hk.2 | grind) (.slice Ao63 t247.length co63)) (fun _ h_ => h_.1))) hb); have n1_ := Aside0.mk (Kd.S_below (by (with_reducible repeat (first | apply Kd.S_alloc | apply Kd.S_drewN | apply Kd.S_drew)); exact (Kd.S_mono (Kd.S_far (p := ⟨gb250, 5, none⟩) (Kd.S_far (p := ⟨gb250, 4, none⟩) (Kd.S_far (p := ⟨gb250, 3, none⟩) (Kd.S_far (p := ⟨gb250, 2, none⟩) (Kd.S_far (p := ⟨gb250, 1, none⟩) (Kd.S_far (p := ⟨gb250, 0, none⟩) (Kd.S_types HO249.out BK250.out (by decide)) (fun _ hk => by first | exact hk.2 | grind) (.int .i64 t242)) (fun _ hk => by first | exact hk.2 | grind) (.int .i64 t243)) (fun _ hk => by first | exact hk.2 | grind) (.int .i64 t244)) (fun _ hk => by first | exact hk.2 | grind) (.int .i64 t245)) (fun _ hk => by first | exact hk.2 | grind) (.bool t246)) (fun _ hk => by first | exact hk.2 | grind) (.slice Ao63 t247.length co63)) (fun _ h_ => h_.1))) hb); have n2_ := bm_ BK231 hb; have n3_ := Aside0.mk (blk_below (g := gb250) (o := .cells #[.int .i64 t242, .int .i64 t243, .int .i64 t244, .int .i64 t245, .bool t246, .slice Ao63 t247.length co63] 47 (0, 0)) (by (with_reducible repeat (first | refine blk_drewN ?_ _ | refine blk_drew ?_ | refine blk_alloc ?_ _)); refine blk_put (cs := #[.int .i64 t242, .int .i64 t243, .int .i64 t244, .int .i64 t245, .bool t246, .slice none 0 0]) ?_ 5 _ rfl; (with_reducible repeat (first | refine blk_drewN ?_ _ | refine blk_drew ?_ | refine blk_alloc ?_ _)); refine blk_put (cs := #[.int .i64 t242, .int .i64 t243, .int .i64 t244, .int .i64 t245, .bool false, .slice none 0 0]) ?_ 4 _ rfl; (with_reducible repeat (first | refine blk_drewN ?_ _ | refine blk_drew ?_ | refine blk_alloc ?_ _)); refine blk_put (cs := #[.int .i64 t242, .int .i64 t243, .int .i64 t244, .int .i64 0, .bool false, .slice none 0 0]) ?_ 3 _ rfl; (with_reducible repeat (first | refine blk_drewN ?_ _ | refine blk_drew ?_ | refine blk_alloc ?_ _)); refine blk_put (cs := #[.int .i64 t242, .int .i64 t243, .int .i64 0, .int .i64 0, .bool false, .slice none 0 0]) ?_ 2 _ rfl; (with_reducible repeat (first | refine blk_drewN ?_ _ | refine blk_drew ?_ | refine blk_alloc ?_ _)); refine blk_put (cs := #[.int .i64 t242, .int .i64 0, .int .i64 0, .int .i64 0, .bool false, .slice none 0 0]) ?_ 1 _ rfl; (with_reducible repeat (first | refine blk_drewN ?_ _ | refine blk_drew ?_ | refine blk_alloc ?_ _)); refine blk_put (cs := #[.int .i64 0, .int .i64 0, .int .i64 0, .int .i64 0, .bool false, .slice none 0 0]) ?_ 0 _ rfl; exact bk_ BK250) hb); have n4_ := Aside0.mk (below_step (bf_ HB) hb); clear HO240; clear HO249; clear BK231; clear BK250; clear HB; have HO240 := n0_; have HO249 := n1_; have BK231 := n2_; have BK250 := n3_; have HB := n4_; clear n0_ n1_ n2_ n3_ n4_; (try clear hb); (try clear hb2); (try clear hk); (try clear hi)))
   go_ret
   exact ⟨by first | rfl | (simp [errW_none, errW_some] <;> rfl) | (simp [*, errW_none, errW_some] <;> rfl), bf_ HB⟩

/-! What is told of arguments that came in -/
def W37 (x : S37) : Prop := ((Lit.int .i64 x.f0).wf = true) ∧ ((Lit.int .i64 x.f1).wf = true) ∧ ((Lit.int .i64 x.f2).wf = true) ∧ ((Lit.int .i64 x.f3).wf = true) ∧ (True)
def W42 (x : S42) : Prop := ((Lit.int .i64 x.f0).wf = true) ∧ ((Lit.int .i64 x.f1).wf = true)
def W133 (x : S133) : Prop := ((Lit.int .i64 x.f0).wf = true) ∧ ((x.f1.length ≤ maxLen ∧ ∀ y_ ∈ x.f1, W42 y_))
def W40 (x : S40) : Prop := (W37 x.f0) ∧ ((x.f1.length ≤ maxLen ∧ ∀ y_ ∈ x.f1, W133 y_))
/-- THE ONE PURE STATEMENT of laws_FnExactBufLongest: yours. -/
def laws_FnExactBufLongest.Pure : Prop := ∀ (a0_0 : Int) (a0_1 : Int) (a0_2 : Int) (a0_3 : Int) (a0_4 : Bool) (l0_5 : List (S133)), W40 (⟨(⟨a0_0, a0_1, a0_2, a0_3, a0_4⟩ : S37), l0_5⟩ : S40) → ∃ k, laws_FnExactBufLongest.f k a0_0 a0_1 a0_2 a0_3 a0_4 l0_5 = some true
theorem laws_FnExactBufLongest.walk (P : laws_FnExactBufLongest.Pure) (w : World) (x0 : S40) (A0_5 : Option Addr) (c0_5 : Nat) (hc0_5 : x0.f1.length ≤ c0_5) (hr0_5 : Kd.C k133 w A0_5 x0.f1.length x0.f1) (hw0 : W40 x0) :
  Calls Try.prog 9 #[.agg #[.int .i64 x0.f0.f0, .int .i64 x0.f0.f1, .int .i64 x0.f0.f2, .int .i64 x0.f0.f3, .bool x0.f0.f4, .slice A0_5 x0.f1.length c0_5]] w fun e w' => e = .returned (.bool true) ∧ Below w.heap.size w w' := by
 obtain ⟨k, h⟩ := P (x0.f0.f0) (x0.f0.f1) (x0.f0.f2) (x0.f0.f3) (x0.f0.f4) (x0.f1) hw0
 refine (laws_FnExactBufLongest.calls k (x0.f0.f0) (x0.f0.f1) (x0.f0.f2) (x0.f0.f3) (x0.f0.f4) A0_5 c0_5 x0.f1 true w hr0_5 hc0_5 h).mono ?_
 rintro e w' ⟨rfl, hd⟩
 exact ⟨rfl, hd⟩

end Go.Proofs.Ytnklakficjpmoaa.PFnExactBufLongest
