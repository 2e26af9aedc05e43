-- printed by a program of this session (wip/printx) out of the translation; Lean checks it
import Derived.Test.YtnklakficjpmoaaPFnExactHeapOrderx0
import Derived.Test.YtnklakficjpmoaaPFnExactHeapOrderx1
namespace Go.Proofs.Ytnklakficjpmoaa.PFnExactHeapOrder
open Go.RowKit Go.Proofs.YtnklakficjpmoaaW.PrintWords Go.Proofs.YtnklakficjpmoaaW.PrintLast Go.Proofs.YtnklakficjpmoaaW.PrintMore
attribute [local go_sem] max2_int min2_int max_two min_two max_three min_three max_four min_four   -- for this text's walks alone
set_option linter.unusedVariables false
set_option linter.unusedSimpArgs false

/-! ### spec_HeapOrder: function 16 -/
mutual
def spec_HeapOrder.l0 : Nat → List (S68) → Int → List (S68) → Option ((List (S68)))
  | 0, _, _, _ => none
  | k + 1, x3, x4, x116000 => if x4 < (x116000.length : Int) then (spec_HeapOrder.l1 k x3 x4 (x3.length : Int) x116000) else (some x3)
def spec_HeapOrder.l1 : Nat → List (S68) → Int → Int → List (S68) → Option ((List (S68)))
  | 0, _, _, _, _ => none
  | k + 1, x3, x4, x5, x116000 => if x5 > 0 then (if 0 ≤ x4 then (if x4 < (x116000.length : Int) then (if 0 ≤ (wrap64 (x5 - 1)) then (if (wrap64 (x5 - 1)) < (x3.length : Int) then ((spec_Ahead.f ((rd_T68 x116000 x4).f0) ((rd_T68 x116000 x4).f1) ((rd_T68 x3 (wrap64 (x5 - 1))).f0) ((rd_T68 x3 (wrap64 (x5 - 1))).f1)).bind fun t122 => (if t122 = true then (spec_HeapOrder.l1 k x3 x4 (wrap64 (x5 - 1)) x116000) else ((some (([(⟨(rd_T68 x116000 x4).f0, (rd_T68 x116000 x4).f1⟩ : S68)] : List (S68)) : List (S68))).bind fun y124 => (if 0 ≤ x5 then (if x5 ≤ (x3.length : Int) then ((some (x3.drop (x5 : Int).toNat : List (S68))).bind fun y127 => (if y124.length + y127.length < 8796093022208 then ((some (y124 ++ y127 : List (S68))).bind fun y131 => ((some (([] : List (S68)) : List (S68))).bind fun y134 => ((some (x3.take (x5 : Int).toNat : List (S68))).bind fun y137 => (if y134.length + y137.length < 8796093022208 then ((some (y134 ++ y137 : List (S68))).bind fun y141 => (if y141.length + y131.length < 8796093022208 then (spec_HeapOrder.l0 k (y141 ++ y131) (wrap64 (x4 + 1)) x116000) else (none))) else (none))))) else (none))) else (none)) else (none))))) else (none)) else (none)) else (none)) else (none)) else (if 0 ≤ x4 then (if x4 < (x116000.length : Int) then ((some (([(⟨(rd_T68 x116000 x4).f0, (rd_T68 x116000 x4).f1⟩ : S68)] : List (S68)) : List (S68))).bind fun y148 => (if 0 ≤ x5 then (if x5 ≤ (x3.length : Int) then ((some (x3.drop (x5 : Int).toNat : List (S68))).bind fun y151 => (if y148.length + y151.length < 8796093022208 then ((some (y148 ++ y151 : List (S68))).bind fun y155 => ((some (([] : List (S68)) : List (S68))).bind fun y158 => ((some (x3.take (x5 : Int).toNat : List (S68))).bind fun y161 => (if y158.length + y161.length < 8796093022208 then ((some (y158 ++ y161 : List (S68))).bind fun y165 => (if y165.length + y155.length < 8796093022208 then (spec_HeapOrder.l0 k (y165 ++ y155) (wrap64 (x4 + 1)) x116000) else (none))) else (none))))) else (none))) else (none)) else (none))) else (none)) else (none))
end
def spec_HeapOrder.f (k : Nat) (l0_0 : List (S68)) : Option ((List (S68))) := (some (([] : List (S68)) : List (S68))).bind fun y116 => ((spec_HeapOk.f k l0_0).bind fun t119 => (if t119 = true then (spec_HeapOrder.l0 k y116 0 l0_0) else (some y116)))
theorem spec_HeapOrder.mono_l : ∀ k, (∀ y0 y1 y2, LeO (spec_HeapOrder.l0 k y0 y1 y2) (spec_HeapOrder.l0 (k + 1) y0 y1 y2)) ∧ (∀ y0 y1 y2 y3, LeO (spec_HeapOrder.l1 k y0 y1 y2 y3) (spec_HeapOrder.l1 (k + 1) y0 y1 y2 y3))
 | 0 => ⟨fun _ _ _ r h => by simp [spec_HeapOrder.l0] at h, fun _ _ _ _ r h => by simp [spec_HeapOrder.l1] at h⟩
 | k + 1 => by
  obtain ⟨ih0, ih1⟩ := spec_HeapOrder.mono_l k
  refine ⟨?_, ?_⟩
  ·intro y0 y1 y2
   unfold spec_HeapOrder.l0
   repeat' first
   | (with_reducible exact ih0 _ _ _)
   | (with_reducible exact ih1 _ _ _ _)
   | (with_reducible exact spec_HeapOk.mono _ _)
   | (with_reducible exact LeO.refl _)
   | (with_reducible exact LeO.none _)
   | (with_reducible refine LeO.ite ?_ ?_)
   | (with_reducible refine LeO.bind ?_ (fun _ => ?_))
   | exact ih0 _ _ _
   | exact ih1 _ _ _ _
   | exact spec_HeapOk.mono _ _
   | exact LeO.none _
   | refine LeO.ite ?_ ?_
   | refine LeO.bind ?_ (fun _ => ?_)
  ·intro y0 y1 y2 y3
   unfold spec_HeapOrder.l1
   repeat' first
   | (with_reducible exact ih0 _ _ _)
   | (with_reducible exact ih1 _ _ _ _)
   | (with_reducible exact spec_HeapOk.mono _ _)
   | (with_reducible exact LeO.refl _)
   | (with_reducible exact LeO.none _)
   | (with_reducible refine LeO.ite ?_ ?_)
   | (with_reducible refine LeO.bind ?_ (fun _ => ?_))
   | exact ih0 _ _ _
   | exact ih1 _ _ _ _
   | exact spec_HeapOk.mono _ _
   | exact LeO.none _
   | refine LeO.ite ?_ ?_
   | refine LeO.bind ?_ (fun _ => ?_)
theorem spec_HeapOrder.mono : ∀ a0 k, LeO (spec_HeapOrder.f k a0) (spec_HeapOrder.f (k + 1) a0) := by
 intro a0 k
 obtain ⟨ih0, ih1⟩ := spec_HeapOrder.mono_l k
 unfold spec_HeapOrder.f
 repeat' first
   | (with_reducible exact ih0 _ _ _)
   | (with_reducible exact ih1 _ _ _ _)
   | (with_reducible exact spec_HeapOk.mono _ _)
   | (with_reducible exact LeO.refl _)
   | (with_reducible exact LeO.none _)
   | (with_reducible refine LeO.ite ?_ ?_)
   | (with_reducible refine LeO.bind ?_ (fun _ => ?_))
   | exact ih0 _ _ _
   | exact ih1 _ _ _ _
   | exact spec_HeapOk.mono _ _
   | exact LeO.none _
   | refine LeO.ite ?_ ?_
   | refine LeO.bind ?_ (fun _ => ?_)
def spec_HeapOrder.T8 : Bool × List (List Nat × List Nat) := (true, [([], []), ([0], [0]), ([1], [1]), ([2], [2]), ([3, 2], [2, 3]), ([2], [2]), ([4, 5, 2], [2, 4, 5]), ([6, 2], [2, 6]), ([2], [2]), ([2], [2]), ([9, 2], [2, 9]), ([8, 10, 2], [2, 8, 10]), ([11, 2], [2, 11]), ([7, 12, 2, 2], [2, 7, 12]), ([2, 13], [2, 13])])
def spec_HeapOrder.B8 : List Nat := [0, 1, 3, 7, 15, 7, 63, 127, 7, 7, 519, 1799, 3847, 8191, 16383]
theorem spec_HeapOrder.tab8 : rtab .any (opsOf Try.f16 8) = spec_HeapOrder.T8 := by kernel_rfl
theorem spec_HeapOrder.bits8 : waitsOk spec_HeapOrder.T8.2 spec_HeapOrder.B8 = true := by kernel_rfl
def spec_HeapOrder.T10 : Bool × List (List Nat × List Nat) := (true, [([], []), ([0], [0]), ([], []), ([1, 2], [1, 2]), ([3], [3]), ([4], [4]), ([], []), ([], []), ([6, 7], [6, 7]), ([5, 8], [5, 8]), ([9, 9, 0, 1, 2, 3, 4, 5, 6, 7, 8, 9], [9])])
def spec_HeapOrder.B10 : List Nat := [0, 1, 0, 7, 15, 31, 0, 0, 192, 511, 1023]
theorem spec_HeapOrder.tab10 : rtab .any (opsOf Try.f16 10) = spec_HeapOrder.T10 := by kernel_rfl
theorem spec_HeapOrder.bits10 : waitsOk spec_HeapOrder.T10.2 spec_HeapOrder.B10 = true := by kernel_rfl
set_option maxHeartbeats 8000000 in
set_option maxRecDepth 100000 in
theorem spec_HeapOrder.calls (k : Nat) (A0_0 : Option Addr) (c0_0 : Nat) (l0_0 : List (S68)) (r : List (S68)) (w : World) (hr0_0 : Kd.C k68 w A0_0 l0_0.length l0_0) (hc0_0 : l0_0.length ≤ c0_0) (h : spec_HeapOrder.f k l0_0 = some r) :
  Calls Try.prog 16 #[.agg #[.slice A0_0 l0_0.length c0_0]] w fun e w' => ∃ v0_ : Value, e = .returned (v0_) ∧ Kd.R k68 68 w' w.heap.size (fun _ => True) v0_ r ∧ Below w.heap.size w w' := by
 have hu29 := Try.underlying29; have hu68 := Try.underlying68
 have HR0_0 := Aside0.mk hr0_0
 have HC0_0 := Aside0.mk hc0_0
 clear hr0_0 hc0_0; have HB := Aside0.mk (Below.refl w.heap.size w)
 have H : ((some (([] : List (S68)) : List (S68))).bind fun y116 => ((spec_HeapOk.f k l0_0).bind fun t119 => (if t119 = true then (spec_HeapOrder.l0 k y116 0 l0_0) else (some y116)))) = some r := h
 clear h
 obtain ⟨y116, hy116⟩ : ∃ y_ : List (S68), y_ = (([] : List (S68))) := ⟨_, rfl⟩
 replace H : ((spec_HeapOk.f k l0_0).bind fun t119 => (if t119 = true then (spec_HeapOrder.l0 k y116 0 l0_0) else (some y116))) = some r := by first | (rw [hy116]; with_reducible exact H) | (have H2_ := (Option.bind_some _ _).symm.trans H; rw [hy116]; with_reducible exact H2_) | (have H2_ := (Option.bind_some _ _).symm.trans H; with_reducible exact H2_) | with_reducible exact H | (rw [hy116]; exact H) | exact H
 have Ny116 := Aside0.mk hy116
 clear hy116
 replace H := Option.bind_eq_some_iff.mp H
 obtain ⟨t119, A20, H⟩ := H
 replace H : (if t119 = true then (spec_HeapOrder.l0 k y116 0 l0_0) else (some y116)) = some r := H
 have A2 := Aside0.mk A20
 clear A20
 by_cases c3 : t119 = true
 ·subst c3
  have H1 : (spec_HeapOrder.l0 k y116 0 l0_0) = some r := by rw [if_pos rfl] at H; exact H
  clear H
  have H := H1
  clear H1
  have H' := Aside0.mk H
  clear H
  go_enter Try.func16, Try.ntmps16
  go_wp2_with (first | ((with_reducible refine gate_dst (N := 1) rfl ?_); refine box_event ?hg (N := 1) ?hd (cs := #[.slice A0_0 l0_0.length c0_0]) (t := 29) ?hr ?_; (case hd => rfl); (case hg => rfl); (case hr => first | (go_simp; done) | (go_simp; rfl)); intro gb115 hg w4 hbox hb; have n0_ := Aside0.mk (below_step (be_ HB) hb); have n1_ := Aside0.mk (hbox); have n2_ := gw_ HB hg; have n3_ := gw_ HB hg; clear HB; have HB := n0_; have BK115 := n1_; have GW115 := n2_; have GE115 := n3_; clear n0_ n1_ n2_ n3_; clear hb hbox hg) | ((with_reducible refine gate_dst (N := 7) rfl ?_); refine Kd.R_lit k68 _ 68 ?hg (N := 7) ?hd (xs := ([] : List (S68))) (inner := []) (ok := fun _ => True) (okp := fun _ => True) ?hr ?hp (fun _ hk => by first | exact hk | grind) trivial (Below.refl _ _) (Nat.le_refl _) (by simp) ?_; (case hd => rfl); (case hg => rfl); (case hr => first | (go_simp; done) | (go_simp; rfl)); (case hp => exact (Reps.none _ _)); intro v117 w5 ho6 hb hg_ hnew_; clear hg_ hnew_; (first | rw [← Ny116.out] at ho6 | (simp only [Int.reduceToNat] at ho6; rw [← Ny116.out] at ho6)); have n0_ := Aside0.mk (Kd.R_lower ho6 (below_size (bf_ HB))); have n1_ := bb_ BK115 hb; have n2_ := Aside0.mk (below_step (bf_ HB) hb); clear BK115; clear HB; have HO118 := n0_; have BK115 := n1_; have HB := n2_; clear n0_ n1_ n2_; clear hb ho6; have hcz7_0 := bc_ BK115 0 (.slice A0_0 l0_0.length c0_0) rfl; have hfz7_0 := blk_frozen BK115.out 0) | ((with_reducible refine gate_callee (f := 40) rfl ?_); refine goesL_ (some 9) rfl rfl Try.func40 (by kernel_rfl) rfl #[.agg #[.slice A0_0 l0_0.length c0_0]] rfl mt_ ?_; (with_reducible refine (spec_HeapOk.calls k _ _ l0_0 true _ ?side1 ?side2 A2.out).mono ?_); (case side1 => repeat (first | exact (Kd.C_below HR0_0.out HB.out) | (with_reducible refine Kd.C_alloc ?_ _) | (with_reducible refine Kd.C_drewN ?_ _) | (with_reducible refine Kd.C_drew ?_))); (case side2 => exact HC0_0.out); rintro e w8 ⟨rfl, hb⟩; refine ⟨_, rfl, ?_⟩; have n0_ := Aside0.mk (Kd.R_below (kr_ HO118) hb); have n1_ := bb_ BK115 hb; have n2_ := Aside0.mk (below_step (bf_ HB) hb); clear HO118; clear BK115; clear HB; have HO118 := n0_; have BK115 := n1_; have HB := n2_; clear n0_ n1_ n2_; (try clear hb); (try clear hb2); (try clear hk); (try clear hi)))
  go_loopg [3, 4] k (fun kq v3 v4 w' => ∃ (x3_1 : List (S68)) (x4_1 : Int), v4 = .int .i64 x4_1 ∧ Aside0 (spec_HeapOrder.l0 kq x3_1 x4_1 l0_0 = some r) ∧ Aside0 (kq ≤ k) ∧ Aside0 (Kd.R k68 68 w' w.heap.size (fun _ => True) v3 x3_1) ∧ Aside0 (w'.heap[gb115]? = some (.cells #[(.slice A0_0 l0_0.length c0_0)] 29 (0, 0))) ∧ Aside0 (Below w.heap.size w w'))
  case atStart => exact ⟨(y116), (0), (by first | rfl | (simp; done) | (simp [*]; done)), H', ⟨Nat.le_refl _⟩, ⟨kr_ HO118⟩, ⟨bk_ BK115⟩, ⟨bf_ HB⟩⟩
  case round =>
   clear H'
   (try clear c1); (try clear p2); (try clear c3); (try clear c4); (try clear hcz7_0 hfz7_0)
   obtain ⟨x3_1, x4_1, rfl, HA, HK1, HO_3, BK115, HB⟩ := hrel
   cases gk with
   | zero => exact absurd HA.out (by simp [spec_HeapOrder.l0])
   | succ k1 =>
    have H := HA.out
    clear HA
    simp only [spec_HeapOrder.l0] at H
    by_cases c9 : x4_1 < (l0_0.length : Int)
    ·rw [if_pos c9] at H
     have c9b0 : decide (x4_1 < (l0_0.length : Int)) = true := decide_eq_true c9
     clear c9
     have H' := Aside0.mk H
     clear H; have hcz10_0 := bc_ BK115 0 (.slice A0_0 l0_0.length c0_0) rfl; have hfz10_0 := blk_frozen BK115.out 0
     obtain ⟨Ao11, co11, eo11⟩ := Kd.R_slice HO_3.out
     subst eo11
     go_wp2
     go_loopg [5] k1 (fun kq v5 w' => ∃ (x5_2 : Int), v5 = .int .i64 x5_2 ∧ Aside0 (spec_HeapOrder.l1 kq x3_1 x4_1 x5_2 l0_0 = some r) ∧ Aside0 (kq ≤ k1) ∧ Aside0 (Kd.R k68 68 w' w.heap.size (fun _ => True) (.slice Ao11 x3_1.length co11) x3_1) ∧ Aside0 (w'.heap[gb115]? = some (.cells #[(.slice A0_0 l0_0.length c0_0)] 29 (0, 0))) ∧ Aside0 (Below w.heap.size w w'))
     case atStart => exact ⟨((x3_1.length : Int)), (by first | rfl | (simp; done) | (simp [*]; done)), H', ⟨Nat.le_refl _⟩, ⟨kr_ HO_3⟩, ⟨bk_ BK115⟩, ⟨bf_ HB⟩⟩
     case round =>
      clear H'
      (try clear c1); (try clear p2 p2); (try clear c3); (try clear c4); (try clear c9); (try clear c9b0); (try clear hcz10_0 hfz10_0); (try clear hcz7_0 hfz7_0)
      obtain ⟨x5_2, rfl, HA, HK2, HO_3, BK115, HB⟩ := hrel
      cases gk with
      | zero => exact absurd HA.out (by simp [spec_HeapOrder.l1])
      | succ k2 =>
       have H := HA.out
       clear HA
       simp only [spec_HeapOrder.l1] at H
       by_cases c12 : x5_2 > 0
       ·rw [if_pos c12] at H
        have c12b0 : decide (0 < x5_2) = true := decide_eq_true c12
        clear c12
        by_cases c13 : 0 ≤ x4_1
        ·rw [if_pos c13] at H
         have c13b0 : decide (0 ≤ x4_1) = true := decide_eq_true c13
         clear c13
         by_cases c14 : x4_1 < (l0_0.length : Int)
         ·rw [if_pos c14] at H
          have c14b0 : decide (x4_1 < (l0_0.length : Int)) = true := decide_eq_true c14
          clear c14
          obtain ⟨ji15, hji15⟩ : ∃ j_ : Int, (wrap64 (x5_2 - 1)) = j_ := ⟨_, rfl⟩
          replace H : (if 0 ≤ (ji15) then (if (ji15) < (x3_1.length : Int) then ((spec_Ahead.f ((rd_T68 l0_0 x4_1).f0) ((rd_T68 l0_0 x4_1).f1) ((rd_T68 x3_1 (ji15)).f0) ((rd_T68 x3_1 (ji15)).f1)).bind fun t122 => (if t122 = true then (spec_HeapOrder.l1 k2 x3_1 x4_1 ji15 l0_0) else ((some (([(⟨(rd_T68 l0_0 x4_1).f0, (rd_T68 l0_0 x4_1).f1⟩ : S68)] : List (S68)) : List (S68))).bind fun y124 => (if 0 ≤ x5_2 then (if x5_2 ≤ (x3_1.length : Int) then ((some (x3_1.drop (x5_2 : Int).toNat : List (S68))).bind fun y127 => (if y124.length + y127.length < 8796093022208 then ((some (y124 ++ y127 : List (S68))).bind fun y131 => ((some (([] : List (S68)) : List (S68))).bind fun y134 => ((some (x3_1.take (x5_2 : Int).toNat : List (S68))).bind fun y137 => (if y134.length + y137.length < 8796093022208 then ((some (y134 ++ y137 : List (S68))).bind fun y141 => (if y141.length + y131.length < 8796093022208 then (spec_HeapOrder.l0 k2 (y141 ++ y131) (wrap64 (x4_1 + 1)) l0_0) else (none))) else (none))))) else (none))) else (none)) else (none))))) else (none)) else (none)) = some r := by first | (rw [hji15] at H; exact H) | (simp only [hji15] at H ⊢; exact H)
          have hji15w : (IntKind.i64.wrap (x5_2 - 1)) = ji15 := (i64_w _).trans hji15
          by_cases c16 : 0 ≤ (ji15)
          ·rw [if_pos c16] at H
           have c16b0 : decide (0 ≤ (ji15)) = true := decide_eq_true c16
           clear c16
           by_cases c17 : (ji15) < (x3_1.length : Int)
           ·rw [if_pos c17] at H
            have c17b0 : decide ((ji15) < (x3_1.length : Int)) = true := decide_eq_true c17
            clear c17
            replace H := Option.bind_eq_some_iff.mp H
            obtain ⟨t122, A180, H⟩ := H
            replace H : (if t122 = true then (spec_HeapOrder.l1 k2 x3_1 x4_1 ji15 l0_0) else ((some (([(⟨(rd_T68 l0_0 x4_1).f0, (rd_T68 l0_0 x4_1).f1⟩ : S68)] : List (S68)) : List (S68))).bind fun y124 => (if 0 ≤ x5_2 then (if x5_2 ≤ (x3_1.length : Int) then ((some (x3_1.drop (x5_2 : Int).toNat : List (S68))).bind fun y127 => (if y124.length + y127.length < 8796093022208 then ((some (y124 ++ y127 : List (S68))).bind fun y131 => ((some (([] : List (S68)) : List (S68))).bind fun y134 => ((some (x3_1.take (x5_2 : Int).toNat : List (S68))).bind fun y137 => (if y134.length + y137.length < 8796093022208 then ((some (y134 ++ y137 : List (S68))).bind fun y141 => (if y141.length + y131.length < 8796093022208 then (spec_HeapOrder.l0 k2 (y141 ++ y131) (wrap64 (x4_1 + 1)) l0_0) else (none))) else (none))))) else (none))) else (none)) else (none)))) = some r := H
            have A18 := Aside0.mk A180
            clear A180
            by_cases c19 : t122 = true
            ·subst c19
             have H1 : (spec_HeapOrder.l1 k2 x3_1 x4_1 ji15 l0_0) = some r := by rw [if_pos rfl] at H; exact H
             clear H
             have H := H1
             clear H1
             have H' := Aside0.mk H
             clear H
             try go_wp2
             have n0_ := Aside0.mk (Kd.R_drew HO_3.out); have n1_ := Aside0.mk (blk_drew BK115.out); have n2_ := Aside0.mk (below_drew1 HB.out); clear HO_3; clear BK115; clear HB; have HO_3 := n0_; have BK115 := n1_; have HB := n2_; clear n0_ n1_ n2_
             have p120 : 0 ≤ (x4_1 : Int) := of_decide_eq_true (by first | (with_reducible assumption) | assumption)
             have q120 : x4_1 < (l0_0.length : Int) := of_decide_eq_true (by first | (with_reducible assumption) | assumption)
             obtain ⟨ad120, e120, hx120_0, hx120_1⟩ := at_T68 HR0_0.out x4_1 p120 q120
             have hw120_1 := hx120_1; have hw120_0 := hx120_0
             cases e120
             replace hx120_0 := (HB.out.cell (World.block_lt_of_cell? w _ hx120_0)).trans hx120_0
             replace hx120_1 := (HB.out.cell (World.block_lt_of_cell? w _ hx120_1)).trans hx120_1
             replace p120 := eq_true p120
             replace q120 := eq_true q120
             have p121 : 0 ≤ ((ji15) : Int) := of_decide_eq_true (by first | (with_reducible assumption) | assumption)
             have q121 : (ji15) < (x3_1.length : Int) := of_decide_eq_true (by first | (with_reducible assumption) | assumption)
             obtain ⟨ad121, e121, hx121_0, hx121_1⟩ := at_T68 (Kd.R_reads' HO_3.out).2.2 (ji15) p121 q121
             cases e121
             replace p121 := eq_true p121
             replace q121 := eq_true q121
             refine start_ (n := 15) (S := fun w' => w'.cell? ⟨gb115, 0, none⟩ = some (.slice (some ad120) l0_0.length c0_0) ∧ w'.cell? (ad120.add ((x4_1).toNat * 2)) = some (.int .i64 ((rd_T68 l0_0 x4_1).f0)) ∧ w'.cell? ⟨(ad120.add ((x4_1).toNat * 2)).block, (ad120.add ((x4_1).toNat * 2)).off + 1, none⟩ = some (.int .i64 ((rd_T68 l0_0 x4_1).f1)) ∧ w'.cell? (ad121.add (((ji15)).toNat * 2)) = some (.int .i64 ((rd_T68 x3_1 (ji15)).f0)) ∧ w'.cell? ⟨(ad121.add (((ji15)).toNat * 2)).block, (ad121.add (((ji15)).toNat * 2)).off + 1, none⟩ = some (.int .i64 ((rd_T68 x3_1 (ji15)).f1))) (ds := []) (bs 15 0) (by kernel_rfl) rfl rfl ⟨bt_ BK115 0, ((HB.out.cell (World.block_lt_of_cell? w _ hw120_0)).trans hw120_0), ((HB.out.cell (World.block_lt_of_cell? w _ hw120_1)).trans hw120_1), hx121_0, hx121_1⟩ (fun hHeld => ?_); refine with_tabW spec_HeapOrder.tab8 spec_HeapOrder.bits8 (fun HT_ HW_ => ?_)
             generalize wr.drew = w20 at HO_3 BK115 HB hx120_0 hx120_1 hx121_0 hx121_1 hHeld ⊢
             refine pure_s (i := 0) (N := some 21) (bs 15 1) (any_of HT_.out (by kernel_rfl)) (h := ?_)
             refine pure_s (i := 1) (N := some 22) (bs 15 2) (any_of HT_.out (by kernel_rfl)) (h := ?_)
             refine pure_s (i := 2) (N := some 23) (bs 15 3) (any_of HT_.out (by kernel_rfl)) (h := ?_)
             refine pure_s (i := 3) (N := some 24) (bs 15 4) (any_of HT_.out (by kernel_rfl)) (h := ?_)
             refine pure_s (i := 5) (N := some 26) #[oT,oT,oT,oT,oF,oT,oF,oF,oF,oF,oF,oF,oF,oF,oF] (any_of HT_.out (by kernel_rfl)) (h := ?_)
             refine pure_s (i := 8) (N := some 29) #[oT,oT,oT,oT,oF,oT,oF,oF,oT,oF,oF,oF,oF,oF,oF] (any_of HT_.out (by kernel_rfl)) (h := ?_)
             refine pure_s (i := 9) (N := some 30) #[oT,oT,oT,oT,oF,oT,oF,oF,oT,oT,oF,oF,oF,oF,oF] (any_of HT_.out (by kernel_rfl)) (h := ?_)
             refine pure_s (i := 10) (N := some 31) #[oT,oT,oT,oT,oF,oT,oF,oF,oT,oT,oT,oF,oF,oF,oF] (any_of HT_.out (by kernel_rfl)) (h := ?_)
             refine pure_s (i := 11) (N := some 32) #[oT,oT,oT,oT,oF,oT,oF,oF,oT,oT,oT,oT,oF,oF,oF] (any_of HT_.out (by kernel_rfl)) (h := ?_)
             refine take_ (i := 4) (N := some 25) (v := ?_) (a' := ?_) #[oT,oT,oT,oT,oT,oT,oF,oF,oT,oT,oT,oT,oF,oF,oF] rfl rfl (take_ofW HT_.out HW_.out (by kernel_rfl)) (fun _ _ _ h => h) (Or.inl ⟨by rfl, ?_⟩) hHeld ?_ ?_
             rotate_left
             ·rintro w' ⟨s0, s1, s2, s3, s4⟩
              go_simp
              with_reducible rfl
             rotate_left
             ·simp only [Act.put, List.setIfInBounds_toArray, List.set_cons_zero, List.set_cons_succ, i64_w, i32_w]
              rfl
             refine pure_s (i := 6) (N := some 27) #[oT,oT,oT,oT,oT,oT,oT,oF,oT,oT,oT,oT,oF,oF,oF] (any_of HT_.out (by kernel_rfl)) (h := ?_)
             refine take_ (i := 7) (N := some 28) (v := ?_) (a' := ?_) (bs 15 12) rfl rfl (take_ofW HT_.out HW_.out (by kernel_rfl)) (fun _ _ _ h => h) (Or.inl ⟨by rfl, ?_⟩) hHeld ?_ ?_
             rotate_left
             ·rintro w' ⟨s0, s1, s2, s3, s4⟩
              go_simp
              with_reducible rfl
             rotate_left
             ·simp only [Act.put, List.setIfInBounds_toArray, List.set_cons_zero, List.set_cons_succ, i64_w, i32_w]
              rfl
             refine take_ (i := 12) (N := some 33) (v := ?_) (a' := ?_) (bs 15 13) rfl rfl (take_ofW HT_.out HW_.out (by kernel_rfl)) (fun _ _ _ h => h) (Or.inl ⟨by rfl, ?_⟩) hHeld ?_ ?_
             rotate_left
             ·rintro w' ⟨s0, s1, s2, s3, s4⟩
              go_simp
              with_reducible rfl
             rotate_left
             ·simp only [Act.put, List.setIfInBounds_toArray, List.set_cons_zero, List.set_cons_succ, i64_w, i32_w]
              rfl
             refine one_ (i := 13) (N := some 34) (bs 15 14) rfl rfl (one_of HT_.out (by kernel_rfl)) (by decide) (fun K hK => ?_)
             refine goes_ Try.func46 (by kernel_rfl) rfl #[.agg #[.int .i64 ((rd_T68 l0_0 x4_1).f0), .int .i64 ((rd_T68 l0_0 x4_1).f1)], .agg #[.int .i64 ((rd_T68 x3_1 (ji15)).f0), .int .i64 ((rd_T68 x3_1 (ji15)).f1)]] (by rfl) rfl rfl (by (try simp only [List.map_toArray, List.map_cons, List.map_nil]); first | done | (simp only [hji15]; rfl) | rfl | (simp only [List.length_drop, List.length_take]; rfl)) ?_
             with_reducible refine (spec_Ahead.calls ((rd_T68 l0_0 x4_1).f0) ((rd_T68 l0_0 x4_1).f1) ((rd_T68 x3_1 (ji15)).f0) ((rd_T68 x3_1 (ji15)).f1) true _ A18.out).mono ?_
             rintro e w21 ⟨rfl, hb⟩
             have HS3_ := (hb.cell (World.block_lt_of_cell? _ _ (hHeld.2.2.2.1))).trans (hHeld.2.2.2.1)
             have HS4_ := (hb.cell (World.block_lt_of_cell? _ _ (hHeld.2.2.2.2))).trans (hHeld.2.2.2.2)
             refine ⟨_, rfl, ?_⟩
             have n0_ := Aside0.mk (Kd.R_below (kr_ HO_3) hb); have n1_ := bb_ BK115 hb; have n2_ := Aside0.mk (below_step (bf_ HB) hb); clear HO_3; clear BK115; clear HB; have HO_3 := n0_; have BK115 := n1_; have HB := n2_; clear n0_ n1_ n2_; (try clear hb); (try clear hb2); (try clear hk); (try clear hi)
             refine hK.out _ _ ⟨bt_ BK115 0, ((HB.out.cell (World.block_lt_of_cell? w _ hw120_0)).trans hw120_0), ((HB.out.cell (World.block_lt_of_cell? w _ hw120_1)).trans hw120_1), HS3_, HS4_⟩ (fun hHeld => ?_)
             clear hK K
             refine norm_ (a' := ?_) ?_ ?_
             rotate_left
             ·show Act.put _ (some 34) _ = _
              simp only [Act.put, List.setIfInBounds_toArray, List.set_cons_zero, List.set_cons_succ, i64_w, i32_w]
              rfl
             refine pure_s (i := 14) (N := some 35) (bs 15 15) (any_of HT_.out (by kernel_rfl)) (h := ?_)
             refine done_ (done_of HT_.out (by kernel_rfl)) ?_
             try go_wp2
             go_roundg k2
             case measure => have := HK1.out; have := HK2.out; omega
             case rel => exact ⟨(ji15), (by first | rfl | (simp; done) | (simp only [← hji15] <;> (first | rfl | simp)) | (simp [*]; done)), H', ⟨by have := HK1.out; have := HK2.out; omega⟩, ⟨kr_ HO_3⟩, ⟨bk_ BK115⟩, ⟨bf_ HB⟩⟩
            ·replace c19 := Bool.eq_false_iff.mpr c19
             subst c19
             have H1 : ((some (([(⟨(rd_T68 l0_0 x4_1).f0, (rd_T68 l0_0 x4_1).f1⟩ : S68)] : List (S68)) : List (S68))).bind fun y124 => (if 0 ≤ x5_2 then (if x5_2 ≤ (x3_1.length : Int) then ((some (x3_1.drop (x5_2 : Int).toNat : List (S68))).bind fun y127 => (if y124.length + y127.length < 8796093022208 then ((some (y124 ++ y127 : List (S68))).bind fun y131 => ((some (([] : List (S68)) : List (S68))).bind fun y134 => ((some (x3_1.take (x5_2 : Int).toNat : List (S68))).bind fun y137 => (if y134.length + y137.length < 8796093022208 then ((some (y134 ++ y137 : List (S68))).bind fun y141 => (if y141.length + y131.length < 8796093022208 then (spec_HeapOrder.l0 k2 (y141 ++ y131) (wrap64 (x4_1 + 1)) l0_0) else (none))) else (none))))) else (none))) else (none)) else (none))) = some r := by rw [if_neg (show ¬ (false = true) by decide)] at H; exact H
             clear H
             have H := H1
             clear H1
             obtain ⟨y124, hy124⟩ : ∃ y_ : List (S68), y_ = (([(⟨(rd_T68 l0_0 x4_1).f0, (rd_T68 l0_0 x4_1).f1⟩ : S68)] : List (S68))) := ⟨_, rfl⟩
             replace H : (if 0 ≤ x5_2 then (if x5_2 ≤ (x3_1.length : Int) then ((some (x3_1.drop (x5_2 : Int).toNat : List (S68))).bind fun y127 => (if y124.length + y127.length < 8796093022208 then ((some (y124 ++ y127 : List (S68))).bind fun y131 => ((some (([] : List (S68)) : List (S68))).bind fun y134 => ((some (x3_1.take (x5_2 : Int).toNat : List (S68))).bind fun y137 => (if y134.length + y137.length < 8796093022208 then ((some (y134 ++ y137 : List (S68))).bind fun y141 => (if y141.length + y131.length < 8796093022208 then (spec_HeapOrder.l0 k2 (y141 ++ y131) (wrap64 (x4_1 + 1)) l0_0) else (none))) else (none))))) else (none))) else (none)) else (none)) = some r := by first | (rw [hy124]; with_reducible exact H) | (have H2_ := (Option.bind_some _ _).symm.trans H; rw [hy124]; with_reducible exact H2_) | (have H2_ := (Option.bind_some _ _).symm.trans H; with_reducible exact H2_) | with_reducible exact H | (rw [hy124]; exact H) | exact H
             have Ny124 := Aside0.mk hy124
             clear hy124
             by_cases c22 : 0 ≤ x5_2
             ·rw [if_pos c22] at H
              have c22b0 := eq_true c22
              have c22b1 : decide (0 ≤ x5_2) = true := decide_eq_true c22
              clear c22
              by_cases c23 : x5_2 ≤ (x3_1.length : Int)
              ·rw [if_pos c23] at H
               have c23b0 := eq_true c23
               have c23b1 : decide (x5_2 ≤ (x3_1.length : Int)) = true := decide_eq_true c23
               clear c23
               obtain ⟨y127, hy127⟩ : ∃ y_ : List (S68), y_ = (x3_1.drop (x5_2 : Int).toNat) := ⟨_, rfl⟩
               replace H : (if y124.length + y127.length < 8796093022208 then ((some (y124 ++ y127 : List (S68))).bind fun y131 => ((some (([] : List (S68)) : List (S68))).bind fun y134 => ((some (x3_1.take (x5_2 : Int).toNat : List (S68))).bind fun y137 => (if y134.length + y137.length < 8796093022208 then ((some (y134 ++ y137 : List (S68))).bind fun y141 => (if y141.length + y131.length < 8796093022208 then (spec_HeapOrder.l0 k2 (y141 ++ y131) (wrap64 (x4_1 + 1)) l0_0) else (none))) else (none))))) else (none)) = some r := by first | (rw [hy127]; with_reducible exact H) | (have H2_ := (Option.bind_some _ _).symm.trans H; rw [hy127]; with_reducible exact H2_) | (have H2_ := (Option.bind_some _ _).symm.trans H; with_reducible exact H2_) | with_reducible exact H | (rw [hy127]; exact H) | exact H
               have Ny127 := Aside0.mk hy127
               clear hy127
               by_cases c24 : y124.length + y127.length < 8796093022208
               ·rw [if_pos c24] at H
                have LMc24 := Aside0.mk c24
                clear c24
                obtain ⟨y131, hy131⟩ : ∃ y_ : List (S68), y_ = (y124 ++ y127) := ⟨_, rfl⟩
                replace H : ((some (([] : List (S68)) : List (S68))).bind fun y134 => ((some (x3_1.take (x5_2 : Int).toNat : List (S68))).bind fun y137 => (if y134.length + y137.length < 8796093022208 then ((some (y134 ++ y137 : List (S68))).bind fun y141 => (if y141.length + y131.length < 8796093022208 then (spec_HeapOrder.l0 k2 (y141 ++ y131) (wrap64 (x4_1 + 1)) l0_0) else (none))) else (none)))) = some r := by first | (rw [hy131]; with_reducible exact H) | (have H2_ := (Option.bind_some _ _).symm.trans H; rw [hy131]; with_reducible exact H2_) | (have H2_ := (Option.bind_some _ _).symm.trans H; with_reducible exact H2_) | with_reducible exact H | (rw [hy131]; exact H) | exact H
                have Ny131 := Aside0.mk hy131
                clear hy131
                obtain ⟨y134, hy134⟩ : ∃ y_ : List (S68), y_ = (([] : List (S68))) := ⟨_, rfl⟩
                replace H : ((some (x3_1.take (x5_2 : Int).toNat : List (S68))).bind fun y137 => (if y134.length + y137.length < 8796093022208 then ((some (y134 ++ y137 : List (S68))).bind fun y141 => (if y141.length + y131.length < 8796093022208 then (spec_HeapOrder.l0 k2 (y141 ++ y131) (wrap64 (x4_1 + 1)) l0_0) else (none))) else (none))) = some r := by first | (rw [hy134]; with_reducible exact H) | (have H2_ := (Option.bind_some _ _).symm.trans H; rw [hy134]; with_reducible exact H2_) | (have H2_ := (Option.bind_some _ _).symm.trans H; with_reducible exact H2_) | with_reducible exact H | (rw [hy134]; exact H) | exact H
                have Ny134 := Aside0.mk hy134
                clear hy134
                have c25b0 := eq_true (of_decide_eq_true (by first | (with_reducible assumption) | assumption) : 0 ≤ x5_2)
                have c26b0 := eq_true (of_decide_eq_true (by first | (with_reducible assumption) | assumption) : x5_2 ≤ (x3_1.length : Int))
                obtain ⟨y137, hy137⟩ : ∃ y_ : List (S68), y_ = (x3_1.take (x5_2 : Int).toNat) := ⟨_, rfl⟩
                replace H : (if y134.length + y137.length < 8796093022208 then ((some (y134 ++ y137 : List (S68))).bind fun y141 => (if y141.length + y131.length < 8796093022208 then (spec_HeapOrder.l0 k2 (y141 ++ y131) (wrap64 (x4_1 + 1)) l0_0) else (none))) else (none)) = some r := by first | (rw [hy137]; with_reducible exact H) | (have H2_ := (Option.bind_some _ _).symm.trans H; rw [hy137]; with_reducible exact H2_) | (have H2_ := (Option.bind_some _ _).symm.trans H; with_reducible exact H2_) | with_reducible exact H | (rw [hy137]; exact H) | exact H
                have Ny137 := Aside0.mk hy137
                clear hy137
                by_cases c27 : y134.length + y137.length < 8796093022208
                ·rw [if_pos c27] at H
                 have LMc27 := Aside0.mk c27
                 clear c27
                 obtain ⟨y141, hy141⟩ : ∃ y_ : List (S68), y_ = (y134 ++ y137) := ⟨_, rfl⟩
                 replace H : (if y141.length + y131.length < 8796093022208 then (spec_HeapOrder.l0 k2 (y141 ++ y131) (wrap64 (x4_1 + 1)) l0_0) else (none)) = some r := by first | (rw [hy141]; with_reducible exact H) | (have H2_ := (Option.bind_some _ _).symm.trans H; rw [hy141]; with_reducible exact H2_) | (have H2_ := (Option.bind_some _ _).symm.trans H; with_reducible exact H2_) | with_reducible exact H | (rw [hy141]; exact H) | exact H
                 have Ny141 := Aside0.mk hy141
                 clear hy141
                 by_cases c28 : y141.length + y131.length < 8796093022208
                 ·rw [if_pos c28] at H
                  have LMc28 := Aside0.mk c28
                  clear c28
                  obtain ⟨y144, hy144⟩ : ∃ y_ : List (S68), y_ = (y141 ++ y131) := ⟨_, rfl⟩
                  replace H : (spec_HeapOrder.l0 k2 y144 (wrap64 (x4_1 + 1)) l0_0) = some r := by first | (rw [hy144]; with_reducible exact H) | (have H2_ := (Option.bind_some _ _).symm.trans H; rw [hy144]; with_reducible exact H2_) | (have H2_ := (Option.bind_some _ _).symm.trans H; with_reducible exact H2_) | with_reducible exact H | (rw [hy144]; exact H) | exact H
                  have Ny144 := Aside0.mk hy144
                  clear hy144
                  have H' := Aside0.mk H
                  clear H
                  try go_wp2
                  have n0_ := Aside0.mk (Kd.R_drew HO_3.out); have n1_ := Aside0.mk (blk_drew BK115.out); have n2_ := Aside0.mk (below_drew1 HB.out); clear HO_3; clear BK115; clear HB; have HO_3 := n0_; have BK115 := n1_; have HB := n2_; clear n0_ n1_ n2_
                  have p120 : 0 ≤ (x4_1 : Int) := of_decide_eq_true (by first | (with_reducible assumption) | assumption)
                  have q120 : x4_1 < (l0_0.length : Int) := of_decide_eq_true (by first | (with_reducible assumption) | assumption)
                  obtain ⟨ad120, e120, hx120_0, hx120_1⟩ := at_T68 HR0_0.out x4_1 p120 q120
                  have hw120_1 := hx120_1; have hw120_0 := hx120_0
                  cases e120
                  replace hx120_0 := (HB.out.cell (World.block_lt_of_cell? w _ hx120_0)).trans hx120_0
                  replace hx120_1 := (HB.out.cell (World.block_lt_of_cell? w _ hx120_1)).trans hx120_1
                  replace p120 := eq_true p120
                  replace q120 := eq_true q120
                  have p121 : 0 ≤ ((ji15) : Int) := of_decide_eq_true (by first | (with_reducible assumption) | assumption)
                  have q121 : (ji15) < (x3_1.length : Int) := of_decide_eq_true (by first | (with_reducible assumption) | assumption)
                  obtain ⟨ad121, e121, hx121_0, hx121_1⟩ := at_T68 (Kd.R_reads' HO_3.out).2.2 (ji15) p121 q121
                  cases e121
                  replace p121 := eq_true p121
                  replace q121 := eq_true q121
                  refine start_ (n := 15) (S := fun w' => w'.cell? ⟨gb115, 0, none⟩ = some (.slice (some ad120) l0_0.length c0_0) ∧ w'.cell? (ad120.add ((x4_1).toNat * 2)) = some (.int .i64 ((rd_T68 l0_0 x4_1).f0)) ∧ w'.cell? ⟨(ad120.add ((x4_1).toNat * 2)).block, (ad120.add ((x4_1).toNat * 2)).off + 1, none⟩ = some (.int .i64 ((rd_T68 l0_0 x4_1).f1)) ∧ w'.cell? (ad121.add (((ji15)).toNat * 2)) = some (.int .i64 ((rd_T68 x3_1 (ji15)).f0)) ∧ w'.cell? ⟨(ad121.add (((ji15)).toNat * 2)).block, (ad121.add (((ji15)).toNat * 2)).off + 1, none⟩ = some (.int .i64 ((rd_T68 x3_1 (ji15)).f1))) (ds := []) (bs 15 0) (by kernel_rfl) rfl rfl ⟨bt_ BK115 0, ((HB.out.cell (World.block_lt_of_cell? w _ hw120_0)).trans hw120_0), ((HB.out.cell (World.block_lt_of_cell? w _ hw120_1)).trans hw120_1), hx121_0, hx121_1⟩ (fun hHeld => ?_); refine with_tabW spec_HeapOrder.tab8 spec_HeapOrder.bits8 (fun HT_ HW_ => ?_)
                  generalize wr.drew = w29 at HO_3 BK115 HB hx120_0 hx120_1 hx121_0 hx121_1 hHeld ⊢
                  refine pure_s (i := 0) (N := some 21) (bs 15 1) (any_of HT_.out (by kernel_rfl)) (h := ?_)
                  refine pure_s (i := 1) (N := some 22) (bs 15 2) (any_of HT_.out (by kernel_rfl)) (h := ?_)
                  refine pure_s (i := 2) (N := some 23) (bs 15 3) (any_of HT_.out (by kernel_rfl)) (h := ?_)
                  refine pure_s (i := 3) (N := some 24) (bs 15 4) (any_of HT_.out (by kernel_rfl)) (h := ?_)
                  refine pure_s (i := 5) (N := some 26) #[oT,oT,oT,oT,oF,oT,oF,oF,oF,oF,oF,oF,oF,oF,oF] (any_of HT_.out (by kernel_rfl)) (h := ?_)
                  refine pure_s (i := 8) (N := some 29) #[oT,oT,oT,oT,oF,oT,oF,oF,oT,oF,oF,oF,oF,oF,oF] (any_of HT_.out (by kernel_rfl)) (h := ?_)
                  refine pure_s (i := 9) (N := some 30) #[oT,oT,oT,oT,oF,oT,oF,oF,oT,oT,oF,oF,oF,oF,oF] (any_of HT_.out (by kernel_rfl)) (h := ?_)
                  refine pure_s (i := 10) (N := some 31) #[oT,oT,oT,oT,oF,oT,oF,oF,oT,oT,oT,oF,oF,oF,oF] (any_of HT_.out (by kernel_rfl)) (h := ?_)
                  refine pure_s (i := 11) (N := some 32) #[oT,oT,oT,oT,oF,oT,oF,oF,oT,oT,oT,oT,oF,oF,oF] (any_of HT_.out (by kernel_rfl)) (h := ?_)
                  refine take_ (i := 4) (N := some 25) (v := ?_) (a' := ?_) #[oT,oT,oT,oT,oT,oT,oF,oF,oT,oT,oT,oT,oF,oF,oF] rfl rfl (take_ofW HT_.out HW_.out (by kernel_rfl)) (fun _ _ _ h => h) (Or.inl ⟨by rfl, ?_⟩) hHeld ?_ ?_
                  rotate_left
                  ·rintro w' ⟨s0, s1, s2, s3, s4⟩
                   go_simp
                   with_reducible rfl
                  rotate_left
                  ·simp only [Act.put, List.setIfInBounds_toArray, List.set_cons_zero, List.set_cons_succ, i64_w, i32_w]
                   rfl
                  refine pure_s (i := 6) (N := some 27) #[oT,oT,oT,oT,oT,oT,oT,oF,oT,oT,oT,oT,oF,oF,oF] (any_of HT_.out (by kernel_rfl)) (h := ?_)
                  refine take_ (i := 7) (N := some 28) (v := ?_) (a' := ?_) (bs 15 12) rfl rfl (take_ofW HT_.out HW_.out (by kernel_rfl)) (fun _ _ _ h => h) (Or.inl ⟨by rfl, ?_⟩) hHeld ?_ ?_
                  rotate_left
                  ·rintro w' ⟨s0, s1, s2, s3, s4⟩
                   go_simp
                   with_reducible rfl
                  rotate_left
                  ·simp only [Act.put, List.setIfInBounds_toArray, List.set_cons_zero, List.set_cons_succ, i64_w, i32_w]
                   rfl
                  refine take_ (i := 12) (N := some 33) (v := ?_) (a' := ?_) (bs 15 13) rfl rfl (take_ofW HT_.out HW_.out (by kernel_rfl)) (fun _ _ _ h => h) (Or.inl ⟨by rfl, ?_⟩) hHeld ?_ ?_
                  rotate_left
                  ·rintro w' ⟨s0, s1, s2, s3, s4⟩
                   go_simp
                   with_reducible rfl
                  rotate_left
                  ·simp only [Act.put, List.setIfInBounds_toArray, List.set_cons_zero, List.set_cons_succ, i64_w, i32_w]
                   rfl
                  refine one_ (i := 13) (N := some 34) (bs 15 14) rfl rfl (one_of HT_.out (by kernel_rfl)) (by decide) (fun K hK => ?_)
                  refine goes_ Try.func46 (by kernel_rfl) rfl #[.agg #[.int .i64 ((rd_T68 l0_0 x4_1).f0), .int .i64 ((rd_T68 l0_0 x4_1).f1)], .agg #[.int .i64 ((rd_T68 x3_1 (ji15)).f0), .int .i64 ((rd_T68 x3_1 (ji15)).f1)]] (by rfl) rfl rfl (by (try simp only [List.map_toArray, List.map_cons, List.map_nil]); first | done | (simp only [hji15]; rfl) | rfl | (simp only [List.length_drop, List.length_take]; rfl)) ?_
                  with_reducible refine (spec_Ahead.calls ((rd_T68 l0_0 x4_1).f0) ((rd_T68 l0_0 x4_1).f1) ((rd_T68 x3_1 (ji15)).f0) ((rd_T68 x3_1 (ji15)).f1) false _ A18.out).mono ?_
                  rintro e w30 ⟨rfl, hb⟩
                  have HS3_ := (hb.cell (World.block_lt_of_cell? _ _ (hHeld.2.2.2.1))).trans (hHeld.2.2.2.1)
                  have HS4_ := (hb.cell (World.block_lt_of_cell? _ _ (hHeld.2.2.2.2))).trans (hHeld.2.2.2.2)
                  refine ⟨_, rfl, ?_⟩
                  have n0_ := Aside0.mk (Kd.R_below (kr_ HO_3) hb); have n1_ := bb_ BK115 hb; have n2_ := Aside0.mk (below_step (bf_ HB) hb); clear HO_3; clear BK115; clear HB; have HO_3 := n0_; have BK115 := n1_; have HB := n2_; clear n0_ n1_ n2_; (try clear hb); (try clear hb2); (try clear hk); (try clear hi)
                  refine hK.out _ _ ⟨bt_ BK115 0, ((HB.out.cell (World.block_lt_of_cell? w _ hw120_0)).trans hw120_0), ((HB.out.cell (World.block_lt_of_cell? w _ hw120_1)).trans hw120_1), HS3_, HS4_⟩ (fun hHeld => ?_)
                  clear hK K
                  refine norm_ (a' := ?_) ?_ ?_
                  rotate_left
                  ·show Act.put _ (some 34) _ = _
                   simp only [Act.put, List.setIfInBounds_toArray, List.set_cons_zero, List.set_cons_succ, i64_w, i32_w]
                   rfl
                  refine pure_s (i := 14) (N := some 35) (bs 15 15) (any_of HT_.out (by kernel_rfl)) (h := ?_)
                  refine done_ (done_of HT_.out (by kernel_rfl)) ?_
                  try go_wp2
                  have n0_ := Aside0.mk (Kd.R_drew HO_3.out); have n1_ := Aside0.mk (blk_drew BK115.out); have n2_ := Aside0.mk (below_drew1 HB.out); clear HO_3; clear BK115; clear HB; have HO_3 := n0_; have BK115 := n1_; have HB := n2_; clear n0_ n1_ n2_
                  have p123 : 0 ≤ (x4_1 : Int) := of_decide_eq_true (by first | (with_reducible assumption) | assumption)
                  have q123 : x4_1 < (l0_0.length : Int) := of_decide_eq_true (by first | (with_reducible assumption) | assumption)
                  obtain ⟨ad123, e123, hx123_0, hx123_1⟩ := at_T68 HR0_0.out x4_1 p123 q123
                  have hw123_1 := hx123_1; have hw123_0 := hx123_0
                  obtain rfl : ad120 = ad123 := (by injection e123)
                  replace hx123_0 := (HB.out.cell (World.block_lt_of_cell? w _ hx123_0)).trans hx123_0
                  replace hx123_1 := (HB.out.cell (World.block_lt_of_cell? w _ hx123_1)).trans hx123_1
                  replace p123 := eq_true p123
                  replace q123 := eq_true q123
                  have q32 : (x5_2 : Int) ≤ ((x3_1.length : Int) : Int) := of_decide_eq_true (by first | (with_reducible assumption) | assumption)
                  obtain ⟨i032, hi032, _, hsz32, _⟩ := info_parts info68
                  have hroom32 : x3_1.length ≤ co11 := (Kd.R_reads' HO_3.out).2.1
                  have hC32 : Kd.C k68 _ (some ad121) x3_1.length x3_1 := (Kd.R_reads' HO_3.out).2.2
                  have q032 : (0 : Int) ≤ (x5_2 : Int) := of_decide_eq_true (by first | (with_reducible assumption) | assumption)
                  have hcut32 := cut_from (P := Try.prog) 26 68 .i64 Try.underlying26 hi032 2 hsz32 (some ad121) x3_1.length co11 x5_2 q032 q32
                  have hr32 := Kd.C_drop (m := (x5_2 : Int).toNat) (c := co11) hC32 (by omega) hroom32
                  obtain ⟨A32, hA32⟩ : ∃ A1, A1 = (if co11 = (x5_2 : Int).toNat then (some ad121) else ((some ad121) : Option Addr).map (·.add ((x5_2 : Int).toNat * 2))) := ⟨_, rfl⟩
                  obtain ⟨c32, hc32⟩ : ∃ c1, c1 = co11 - (x5_2 : Int).toNat := ⟨_, rfl⟩
                  have hy32 : y127.length = x3_1.length - (x5_2 : Int).toNat := (by rw [Ny127.out, List.length_drop] <;> omega)
                  rw [show (x3_1).drop (x5_2 : Int).toNat = y127 from Ny127.out.symm] at hr32
                  replace hr32 : Kd.C k68 _ A32 y127.length y127 := (by rw [hA32]; exact hr32)
                  rw [← hy32, ← hA32, ← hc32] at hcut32
                  have HR130 := Aside0.mk hr32
                  have HC130 := Aside0.mk (show y127.length ≤ c32 from by rw [hy32, hc32]; exact Nat.sub_le_sub_right hroom32 _)
                  clear hr32 hC32 hroom32 hi032 hsz32 hc32
                  have KY32 := Aside0.mk hy32
                  have KA32 := Aside0.mk hA32
                  clear hy32 hA32
                  have KL32 := Aside0.mk (show (x5_2 : Int).toNat ≤ x3_1.length from by omega)
                  replace q32 := eq_true q32
                  refine start_ (n := 11) (S := fun w' => w'.cell? ⟨gb115, 0, none⟩ = some (.slice (some ad120) l0_0.length c0_0) ∧ w'.cell? (ad120.add ((x4_1).toNat * 2)) = some (.int .i64 ((rd_T68 l0_0 x4_1).f0)) ∧ w'.cell? ⟨(ad120.add ((x4_1).toNat * 2)).block, (ad120.add ((x4_1).toNat * 2)).off + 1, none⟩ = some (.int .i64 ((rd_T68 l0_0 x4_1).f1))) (ds := []) (bs 11 0) (by kernel_rfl) rfl rfl ⟨bt_ BK115 0, ((HB.out.cell (World.block_lt_of_cell? w _ hw123_0)).trans hw123_0), ((HB.out.cell (World.block_lt_of_cell? w _ hw123_1)).trans hw123_1)⟩ (fun hHeld => ?_); refine with_tabW spec_HeapOrder.tab10 spec_HeapOrder.bits10 (fun HT_ HW_ => ?_)
                  generalize w30.drew = w31 at HO_3 BK115 HB HR130 hx123_0 hx123_1 hHeld ⊢
                  refine pure_s (i := 0) (N := some 38) (bs 11 1) (any_of HT_.out (by kernel_rfl)) (h := ?_)
                  refine pure_s (i := 2) (N := some 40) #[oT,oF,oT,oF,oF,oF,oF,oF,oF,oF,oF] (any_of HT_.out (by kernel_rfl)) (h := ?_)
                  refine pure_s (i := 6) (N := some 44) #[oT,oF,oT,oF,oF,oF,oT,oF,oF,oF,oF] (any_of HT_.out (by kernel_rfl)) (h := ?_)
                  refine pure_s (i := 7) (N := some 45) #[oT,oF,oT,oF,oF,oF,oT,oT,oF,oF,oF] (any_of HT_.out (by kernel_rfl)) (h := ?_)
                  refine pure_s (i := 8) (N := some 46) #[oT,oF,oT,oF,oF,oF,oT,oT,oT,oF,oF] (any_of HT_.out (by kernel_rfl)) (h := ?_)
                  refine take_ (i := 1) (N := some 39) (v := ?_) (a' := ?_) #[oT,oT,oT,oF,oF,oF,oT,oT,oT,oF,oF] rfl rfl (take_ofW HT_.out HW_.out (by kernel_rfl)) (fun _ _ _ h => h) (Or.inl ⟨by rfl, ?_⟩) hHeld ?_ ?_
                  rotate_left
                  ·rintro w' ⟨s0, s1, s2⟩
                   go_simp
                   with_reducible rfl
                  rotate_left
                  ·simp only [Act.put, List.setIfInBounds_toArray, List.set_cons_zero, List.set_cons_succ, i64_w, i32_w]
                   rfl
                  refine pure_s (i := 3) (N := some 41) #[oT,oT,oT,oT,oF,oF,oT,oT,oT,oF,oF] (any_of HT_.out (by kernel_rfl)) (h := ?_)
                  refine take_ (i := 4) (N := some 42) (v := ?_) (a' := ?_) #[oT,oT,oT,oT,oT,oF,oT,oT,oT,oF,oF] rfl rfl (take_ofW HT_.out HW_.out (by kernel_rfl)) (fun _ _ _ h => h) (Or.inl ⟨by rfl, ?_⟩) hHeld ?_ ?_
                  rotate_left
                  ·rintro w' ⟨s0, s1, s2⟩
                   go_simp
                   with_reducible rfl
                  rotate_left
                  ·simp only [Act.put, List.setIfInBounds_toArray, List.set_cons_zero, List.set_cons_succ, i64_w, i32_w]
                   rfl
                  refine one_ (i := 5) (N := some 43) (bs 11 9) rfl rfl (one_of HT_.out (by kernel_rfl)) (by decide) (fun K hK => ?_)
                  refine Kd.R_lit_step k68 _ 68 ?hg (N := 43) ?hd (xs := ([(⟨(rd_T68 l0_0 x4_1).f0, (rd_T68 l0_0 x4_1).f1⟩ : S68)] : List (S68))) (inner := [.int .i64 ((rd_T68 l0_0 x4_1).f0), .int .i64 ((rd_T68 l0_0 x4_1).f1)]) (ok := fun _ => True) (okp := fun _ => True) ?hr ?hp (fun _ hk => by first | exact hk | grind) trivial (Below.refl _ _) (Nat.le_refl _) (by simp) ?_; (case hd => rfl); (case hg => rfl); (case hr => first | (go_simp; done) | (go_simp; rfl)); (case hp => exact (Reps.c2 (show Kd.M k68 _ _ _ (⟨(rd_T68 l0_0 x4_1).f0, (rd_T68 l0_0 x4_1).f1⟩ : S68) [.int .i64 ((rd_T68 l0_0 x4_1).f0), .int .i64 ((rd_T68 l0_0 x4_1).f1)] from (k68_mkM _ _ _ (⟨(rd_T68 l0_0 x4_1).f0, (rd_T68 l0_0 x4_1).f1⟩ : S68) )) (Reps.none _ _)))
                  intro v125 w33 ho34 hb hg_ hnew_
                  clear hg_ hnew_
                  (first | rw [← Ny124.out] at ho34 | (simp only [Int.reduceToNat] at ho34; rw [← Ny124.out] at ho34))
                  have n0_ := Aside0.mk (Kd.R_elder' (kr_ HO_3) (Kd.R_base ho34) hb); have n1_ := Aside0.mk (Kd.R_lower (Kd.R_new' ho34 (Kd.R_lt (kr_ HO_3))) (below_size (bf_ HB))); have n2_ := bb_ BK115 hb
                  have n3_ := Aside0.mk (Kd.C_below (by repeat (first | (with_reducible exact HR130.out) | (with_reducible refine Kd.C_alloc ?_ _) | (with_reducible refine Kd.C_drewN ?_ _) | (with_reducible refine Kd.C_drew ?_) | exact HR130.out)) hb)
                  have n4_ := Aside0.mk (below_step (bf_ HB) hb); clear HO_3; clear BK115; clear HR130; clear HB; have HO_3 := n0_; have HO126 := n1_; have BK115 := n2_
                  have HR130 := n3_
                  have HB := n4_; clear n0_ n1_ n2_ n3_ n4_; clear hb ho34
                  refine hK.out _ _ ⟨bt_ BK115 0, ((HB.out.cell (World.block_lt_of_cell? w _ hw123_0)).trans hw123_0), ((HB.out.cell (World.block_lt_of_cell? w _ hw123_1)).trans hw123_1)⟩ (fun hHeld => ?_)
                  clear hK K
                  refine norm_ (a' := ?_) ?_ ?_
                  rotate_left
                  ·show Act.put _ (some 43) _ = _
                   simp only [Act.put, List.setIfInBounds_toArray, List.set_cons_zero, List.set_cons_succ, i64_w, i32_w]
                   rfl
                  refine one_ (i := 9) (N := some 47) (bs 11 10) rfl rfl (one_of HT_.out (by kernel_rfl)) (by decide) (fun K hK => ?_)
                  refine Kd.R_append_rows_step k68 (w0 := w) w.heap.size (by rfl) (.tmp 43) (.tmp 46) 26 68 (.agg #[(.int .i64 0), (.int .i64 0)]) 16 rfl Try.underlying26 info68 rfl (by decide) (by omega) v125 y124 y127 _ _ _ (fun k_ => some k_ ≠ (.slice (some ad121) x3_1.length co11 : Value).ownBlock) (fun _ => False) rfl rfl ?aO ?aR (fun _ _ h => h) (fun _ h => h.elim) ?aF ?aB ?aS ?aL ?_
                  (case aR => repeat (first | exact (by repeat (first | (with_reducible exact HR130.out) | (with_reducible refine Kd.C_alloc ?_ _) | (with_reducible refine Kd.C_drewN ?_ _) | (with_reducible refine Kd.C_drew ?_) | exact HR130.out)) | (with_reducible refine Kd.C_alloc ?_ _) | (with_reducible refine Kd.C_drewN ?_ _) | (with_reducible refine Kd.C_drew ?_)))
                  (case aB => exact (bf_ HB))
                  (case aF => exact (fun k_ hk => by first | exact Kd.fresh' (Kd.R_lt (kr_ HO_3)) k_ hk | grind))
                  (case aO => exact (by (with_reducible repeat (first | apply Kd.R_alloc | apply Kd.R_drewN | apply Kd.R_drew)); exact Kd.R_mono HO126.out (fun _ hk => by first | exact hk.2 | grind)))
                  (case aS => exact (below_size (bf_ HB)))
                  (case aL => have := LMc24.out; omega)
                  intro v132 w35 ho hb hg hat
                  rw [← Ny131.out] at ho
                  have n0_ := Aside0.mk (Kd.R_after (ok := (fun _ => True)) (kr_ HO_3) hg hat)
                  have n1_ := Aside0.mk (blk_grown (g := gb115) (o := .cells #[.slice (some ad120) l0_0.length c0_0] 29 (0, 0)) (bk_ BK115) hg (Kd.R_ne HO126.out BK115.out (by decide)))
                  have n2_ := Aside0.mk (hb)
                  have n3_ := Aside0.mk ((show Kd.C k68 w35 A32 y127.length y127 from by rw [Ny127.out, KA32.out]; exact Kd.C_drop (m := (x5_2 : Int).toNat) (c := co11) ((Kd.R_reads' (Kd.R_after (ok := (fun _ => True)) (kr_ HO_3) hg hat)).2.2) KL32.out ((Kd.R_reads' (Kd.R_after (ok := (fun _ => True)) (kr_ HO_3) hg hat)).2.1)))
                  have n4_ := Aside0.mk (ho); clear HO_3; clear BK115; clear HB; clear HR130; clear HO126; have HO_3 := n0_; have BK115 := n1_; have HB := n2_
                  have HR130 := n3_
                  have HO133 := n4_; clear n0_ n1_ n2_ n3_ n4_; clear ho hb hg hat
                  refine hK.out _ _ ⟨bt_ BK115 0, ((HB.out.cell (World.block_lt_of_cell? w _ hw123_0)).trans hw123_0), ((HB.out.cell (World.block_lt_of_cell? w _ hw123_1)).trans hw123_1)⟩ (fun hHeld => ?_)
                  clear hK K
                  refine norm_ (a' := ?_) ?_ ?_
                  rotate_left
                  ·show Act.put _ (some 47) _ = _
                   simp only [Act.put, List.setIfInBounds_toArray, List.set_cons_zero, List.set_cons_succ, i64_w, i32_w]
                   rfl
                  refine pure_s (i := 10) (N := some 6) (bs 11 11) (any_of HT_.out (by kernel_rfl)) (h := ?_)
                  refine done_ (done_of HT_.out (by kernel_rfl)) ?_
                  try go_wp2_with (first | ((with_reducible refine gate_dst (N := 48) rfl ?_); refine Kd.R_lit k68 _ 68 ?hg (N := 48) ?hd (xs := ([] : List (S68))) (inner := []) (ok := fun _ => True) (okp := fun _ => True) ?hr ?hp (fun _ hk => by first | exact hk | grind) trivial (Below.refl _ _) (Nat.le_refl _) (by simp) ?_; (case hd => rfl); (case hg => rfl); (case hr => first | (go_simp; done) | (go_simp; rfl)); (case hp => exact (Reps.none _ _)); intro v135 w36 ho37 hb hg_ hnew_; clear hg_ hnew_; (first | rw [← Ny134.out] at ho37 | (simp only [Int.reduceToNat] at ho37; rw [← Ny134.out] at ho37)); have n0_ := Aside0.mk (Kd.R_elder' (kr_ HO_3) (Kd.R_base ho37) hb); have n1_ := Aside0.mk (Kd.R_elder' (kr_ HO133) (Kd.R_base ho37) hb); have n2_ := Aside0.mk (Kd.R_lower (Kd.R_new' (Kd.R_new' ho37 (Kd.R_lt (kr_ HO_3))) (Kd.R_lt (kr_ HO133))) (below_size (bf_ HB))); have n3_ := bb_ BK115 hb; have n4_ := Aside0.mk (Kd.C_below (by repeat (first | (with_reducible exact HR130.out) | (with_reducible refine Kd.C_alloc ?_ _) | (with_reducible refine Kd.C_drewN ?_ _) | (with_reducible refine Kd.C_drew ?_) | exact HR130.out)) hb); have n5_ := Aside0.mk (below_step (bf_ HB) hb); clear HO_3; clear HO133; clear BK115; clear HR130; clear HB; have HO_3 := n0_; have HO133 := n1_; have HO136 := n2_; have BK115 := n3_; have HR130 := n4_; have HB := n5_; clear n0_ n1_ n2_ n3_ n4_ n5_; clear hb ho37; have q38 : (x5_2 : Int) ≤ ((x3_1.length : Int) : Int) := of_decide_eq_true (by first | (with_reducible assumption) | assumption); obtain ⟨i038, hi038, _, hsz38, _⟩ := info_parts info68; have hroom38 : x3_1.length ≤ co11 := (Kd.R_reads' HO_3.out).2.1; have hC38 : Kd.C k68 _ (some ad121) x3_1.length x3_1 := (Kd.R_reads' HO_3.out).2.2; have hcut38 := cut_to (P := Try.prog) 26 68 .i64 Try.underlying26 hi038 (some ad121) x3_1.length co11 x5_2 (of_decide_eq_true (by first | (with_reducible assumption) | assumption)) q38 hroom38; have hr38 := Kd.C_take (m := (x5_2 : Int).toNat) hC38 (by omega); have hy38 : y137.length = (x5_2 : Int).toNat := (by rw [Ny137.out, List.length_take]; omega); rw [← Ny137.out] at hr38; rw [← hy38] at hcut38; have HR140 := Aside0.mk hr38; have HC140 := Aside0.mk (show y137.length ≤ co11 from by omega); clear hr38 hC38 hroom38 hi038 hsz38; have KY38 := Aside0.mk hy38; clear hy38; have KL38 := Aside0.mk (show (x5_2 : Int).toNat ≤ x3_1.length from by omega); replace q38 := eq_true q38) | ((with_reducible refine gate_builtin (b := .append) (xs := #[.tmp 48, .tmp 51]) rfl ?_); at_builtin; refine Kd.R_append_rows k68 (w0 := w) w.heap.size rfl (.tmp 48) (.tmp 51) 26 68 (.agg #[(.int .i64 0), (.int .i64 0)]) 16 rfl Try.underlying26 info68 rfl (by decide) (by omega) v135 y134 y137 _ _ _ (fun k_ => some k_ ≠ (.slice (some ad121) x3_1.length co11 : Value).ownBlock ∧ some k_ ≠ (v132 : Value).ownBlock) (fun _ => False) rfl rfl ?aO ?aR (fun _ _ h => h) (fun _ h => h.elim) ?aF ?aB ?aS ?aL ?_; (case aR => repeat (first | exact (by repeat (first | (with_reducible exact HR140.out) | (with_reducible refine Kd.C_alloc ?_ _) | (with_reducible refine Kd.C_drewN ?_ _) | (with_reducible refine Kd.C_drew ?_) | exact HR140.out)) | (with_reducible refine Kd.C_alloc ?_ _) | (with_reducible refine Kd.C_drewN ?_ _) | (with_reducible refine Kd.C_drew ?_))); (case aB => exact (bf_ HB)); (case aF => exact (fun k_ hk => by first | exact ⟨Kd.fresh' (Kd.R_lt (kr_ HO_3)) k_ hk, Kd.fresh' (Kd.R_lt (kr_ HO133)) k_ hk⟩ | grind)); (case aO => exact (by (with_reducible repeat (first | apply Kd.R_alloc | apply Kd.R_drewN | apply Kd.R_drew)); exact Kd.R_mono HO136.out (fun _ hk => by first | exact ⟨hk.1.2, hk.2⟩ | grind))); (case aS => exact (below_size (bf_ HB))); (case aL => have := LMc27.out; omega); intro v142 w39 ho hb hg hat; rw [← Ny141.out] at ho; have n0_ := Aside0.mk (Kd.R_after (ok := (fun k_ => some k_ ≠ (v132 : Value).ownBlock)) (by (with_reducible repeat (first | apply Kd.R_alloc | apply Kd.R_drewN | apply Kd.R_drew)); exact Kd.R_mono HO_3.out (fun _ hk => by first | exact ⟨hk.1.2, hk.2⟩ | grind)) hg hat); have n1_ := Aside0.mk (blk_grown (g := gb115) (o := .cells #[.slice (some ad120) l0_0.length c0_0] 29 (0, 0)) (bk_ BK115) hg (Kd.R_ne HO136.out BK115.out (by decide))); have n2_ := Aside0.mk (Kd.R_after (ok := (fun k_ => some k_ ≠ (.slice (some ad121) x3_1.length co11 : Value).ownBlock)) (kr_ HO133) hg hat); have n3_ := Aside0.mk (hb); have n4_ := Aside0.mk ((show Kd.C k68 w39 A32 y127.length y127 from by rw [Ny127.out, KA32.out]; exact Kd.C_drop (m := (x5_2 : Int).toNat) (c := co11) ((Kd.R_reads' (Kd.R_after (ok := (fun k_ => some k_ ≠ (v132 : Value).ownBlock)) (by (with_reducible repeat (first | apply Kd.R_alloc | apply Kd.R_drewN | apply Kd.R_drew)); exact Kd.R_mono HO_3.out (fun _ hk => by first | exact ⟨hk.1.2, hk.2⟩ | grind)) hg hat)).2.2) KL32.out ((Kd.R_reads' (Kd.R_after (ok := (fun k_ => some k_ ≠ (v132 : Value).ownBlock)) (by (with_reducible repeat (first | apply Kd.R_alloc | apply Kd.R_drewN | apply Kd.R_drew)); exact Kd.R_mono HO_3.out (fun _ hk => by first | exact ⟨hk.1.2, hk.2⟩ | grind)) hg hat)).2.1))); have n5_ := Aside0.mk ((show Kd.C k68 w39 (some ad121) y137.length y137 from by rw [Ny137.out]; exact Kd.C_take (m := (x5_2 : Int).toNat) ((Kd.R_reads' (Kd.R_after (ok := (fun k_ => some k_ ≠ (v132 : Value).ownBlock)) (by (with_reducible repeat (first | apply Kd.R_alloc | apply Kd.R_drewN | apply Kd.R_drew)); exact Kd.R_mono HO_3.out (fun _ hk => by first | exact ⟨hk.1.2, hk.2⟩ | grind)) hg hat)).2.2) KL38.out)); have n6_ := Aside0.mk (ho); clear HO_3; clear BK115; clear HO133; clear HB; clear HR130; clear HR140; clear HO136; have HO_3 := n0_; have BK115 := n1_; have HO133 := n2_; have HB := n3_; have HR130 := n4_; have HR140 := n5_; have HO143 := n6_; clear n0_ n1_ n2_ n3_ n4_ n5_ n6_; clear ho hb hg hat; obtain ⟨Ao41, co41, eo41⟩ := Kd.R_slice HO133.out; subst eo41) | ((with_reducible refine gate_builtin (b := .append) (xs := #[.tmp 52, .tmp 53]) rfl ?_); at_builtin; refine Kd.R_append_rows k68 (w0 := w) w.heap.size rfl (.tmp 52) (.tmp 53) 26 68 (.agg #[(.int .i64 0), (.int .i64 0)]) 16 rfl Try.underlying26 info68 rfl (by decide) (by omega) v142 y141 y131 _ _ _ (fun k_ => some k_ ≠ (.slice (some ad121) x3_1.length co11 : Value).ownBlock ∧ some k_ ≠ (.slice Ao41 y131.length co41 : Value).ownBlock) (fun _ => False) rfl rfl ?aO ?aR (fun _ _ h => h) (fun _ h => h.elim) ?aF ?aB ?aS ?aL ?_; (case aR => exact cr_ HO133); (case aB => exact (bf_ HB)); (case aF => exact (fun k_ hk => by first | exact ⟨Kd.fresh' (Kd.R_lt (kr_ HO_3)) k_ hk, Kd.fresh' (Kd.R_lt (kr_ HO133)) k_ hk⟩ | grind)); (case aO => exact (kr_ HO143)); (case aS => exact (below_size (bf_ HB))); (case aL => have := LMc28.out; omega); intro v145 w40 ho hb hg hat; rw [← Ny144.out] at ho; have n0_ := Aside0.mk (Kd.R_after (ok := (fun k_ => some k_ ≠ (.slice Ao41 y131.length co41 : Value).ownBlock)) (kr_ HO_3) hg hat); have n1_ := Aside0.mk (blk_grown (g := gb115) (o := .cells #[.slice (some ad120) l0_0.length c0_0] 29 (0, 0)) (bk_ BK115) hg (Kd.R_ne HO143.out BK115.out (by decide))); have n2_ := Aside0.mk (Kd.R_after (ok := (fun k_ => some k_ ≠ (.slice (some ad121) x3_1.length co11 : Value).ownBlock)) (kr_ HO133) hg hat); have n3_ := Aside0.mk (hb); have n4_ := Aside0.mk ((show Kd.C k68 w40 A32 y127.length y127 from by rw [Ny127.out, KA32.out]; exact Kd.C_drop (m := (x5_2 : Int).toNat) (c := co11) ((Kd.R_reads' (Kd.R_after (ok := (fun k_ => some k_ ≠ (.slice Ao41 y131.length co41 : Value).ownBlock)) (kr_ HO_3) hg hat)).2.2) KL32.out ((Kd.R_reads' (Kd.R_after (ok := (fun k_ => some k_ ≠ (.slice Ao41 y131.length co41 : Value).ownBlock)) (kr_ HO_3) hg hat)).2.1))); have n5_ := Aside0.mk ((show Kd.C k68 w40 (some ad121) y137.length y137 from by rw [Ny137.out]; exact Kd.C_take (m := (x5_2 : Int).toNat) ((Kd.R_reads' (Kd.R_after (ok := (fun k_ => some k_ ≠ (.slice Ao41 y131.length co41 : Value).ownBlock)) (kr_ HO_3) hg hat)).2.2) KL38.out)); have n6_ := Aside0.mk (ho); clear HO_3; clear BK115; clear HO133; clear HB; clear HR130; clear HR140; clear HO143; have HO_3 := n0_; have BK115 := n1_; have HO133 := n2_; have HB := n3_; have HR130 := n4_; have HR140 := n5_; have HO146 := n6_; clear n0_ n1_ n2_ n3_ n4_ n5_ n6_; clear ho hb hg hat))
                  go_roundg k2
                  case measure => have := HK1.out; have := HK2.out; omega
                  case rel => exact ⟨(y144), (wrap64 (x4_1 + 1)), (by first | rfl | (simp; done) | (simp [*]; done)), H', ⟨by have := HK1.out; have := HK2.out; omega⟩, ⟨by (with_reducible repeat (first | apply Kd.R_alloc | apply Kd.R_drewN | apply Kd.R_drew)); exact Kd.R_mono HO146.out (fun _ hk => by first | exact trivial | grind)⟩, ⟨bk_ BK115⟩, ⟨bf_ HB⟩⟩
                 ·rw [if_neg c28] at H
                  exact absurd H (by simp)
                ·rw [if_neg c27] at H
                 exact absurd H (by simp)
               ·rw [if_neg c24] at H
                exact absurd H (by simp)
              ·rw [if_neg c23] at H
               exact absurd H (by simp)
             ·rw [if_neg c22] at H
              exact absurd H (by simp)
           ·rw [if_neg c17] at H
            exact absurd H (by simp)
          ·rw [if_neg c16] at H
           exact absurd H (by simp)
         ·rw [if_neg c14] at H
          exact absurd H (by simp)
        ·rw [if_neg c13] at H
         exact absurd H (by simp)
       ·rw [if_neg c12] at H
        have c12b0 : decide (0 < x5_2) = false := decide_eq_false c12
        clear c12
        by_cases c42 : 0 ≤ x4_1
        ·rw [if_pos c42] at H
         have c42b0 : decide (0 ≤ x4_1) = true := decide_eq_true c42
         clear c42
         by_cases c43 : x4_1 < (l0_0.length : Int)
         ·rw [if_pos c43] at H
          have c43b0 : decide (x4_1 < (l0_0.length : Int)) = true := decide_eq_true c43
          clear c43
          obtain ⟨y148, hy148⟩ : ∃ y_ : List (S68), y_ = (([(⟨(rd_T68 l0_0 x4_1).f0, (rd_T68 l0_0 x4_1).f1⟩ : S68)] : List (S68))) := ⟨_, rfl⟩
          replace H : (if 0 ≤ x5_2 then (if x5_2 ≤ (x3_1.length : Int) then ((some (x3_1.drop (x5_2 : Int).toNat : List (S68))).bind fun y151 => (if y148.length + y151.length < 8796093022208 then ((some (y148 ++ y151 : List (S68))).bind fun y155 => ((some (([] : List (S68)) : List (S68))).bind fun y158 => ((some (x3_1.take (x5_2 : Int).toNat : List (S68))).bind fun y161 => (if y158.length + y161.length < 8796093022208 then ((some (y158 ++ y161 : List (S68))).bind fun y165 => (if y165.length + y155.length < 8796093022208 then (spec_HeapOrder.l0 k2 (y165 ++ y155) (wrap64 (x4_1 + 1)) l0_0) else (none))) else (none))))) else (none))) else (none)) else (none)) = some r := by first | (rw [hy148]; with_reducible exact H) | (have H2_ := (Option.bind_some _ _).symm.trans H; rw [hy148]; with_reducible exact H2_) | (have H2_ := (Option.bind_some _ _).symm.trans H; with_reducible exact H2_) | with_reducible exact H | (rw [hy148]; exact H) | exact H
          have Ny148 := Aside0.mk hy148
          clear hy148
          by_cases c44 : 0 ≤ x5_2
          ·rw [if_pos c44] at H
           have c44b0 := eq_true c44
           have c44b1 : decide (0 ≤ x5_2) = true := decide_eq_true c44
           clear c44
           by_cases c45 : x5_2 ≤ (x3_1.length : Int)
           ·rw [if_pos c45] at H
            have c45b0 := eq_true c45
            have c45b1 : decide (x5_2 ≤ (x3_1.length : Int)) = true := decide_eq_true c45
            clear c45
            obtain ⟨y151, hy151⟩ : ∃ y_ : List (S68), y_ = (x3_1.drop (x5_2 : Int).toNat) := ⟨_, rfl⟩
            replace H : (if y148.length + y151.length < 8796093022208 then ((some (y148 ++ y151 : List (S68))).bind fun y155 => ((some (([] : List (S68)) : List (S68))).bind fun y158 => ((some (x3_1.take (x5_2 : Int).toNat : List (S68))).bind fun y161 => (if y158.length + y161.length < 8796093022208 then ((some (y158 ++ y161 : List (S68))).bind fun y165 => (if y165.length + y155.length < 8796093022208 then (spec_HeapOrder.l0 k2 (y165 ++ y155) (wrap64 (x4_1 + 1)) l0_0) else (none))) else (none))))) else (none)) = some r := by first | (rw [hy151]; with_reducible exact H) | (have H2_ := (Option.bind_some _ _).symm.trans H; rw [hy151]; with_reducible exact H2_) | (have H2_ := (Option.bind_some _ _).symm.trans H; with_reducible exact H2_) | with_reducible exact H | (rw [hy151]; exact H) | exact H
            have Ny151 := Aside0.mk hy151
            clear hy151
            by_cases c46 : y148.length + y151.length < 8796093022208
            ·rw [if_pos c46] at H
             have LMc46 := Aside0.mk c46
             clear c46
             obtain ⟨y155, hy155⟩ : ∃ y_ : List (S68), y_ = (y148 ++ y151) := ⟨_, rfl⟩
             replace H : ((some (([] : List (S68)) : List (S68))).bind fun y158 => ((some (x3_1.take (x5_2 : Int).toNat : List (S68))).bind fun y161 => (if y158.length + y161.length < 8796093022208 then ((some (y158 ++ y161 : List (S68))).bind fun y165 => (if y165.length + y155.length < 8796093022208 then (spec_HeapOrder.l0 k2 (y165 ++ y155) (wrap64 (x4_1 + 1)) l0_0) else (none))) else (none)))) = some r := by first | (rw [hy155]; with_reducible exact H) | (have H2_ := (Option.bind_some _ _).symm.trans H; rw [hy155]; with_reducible exact H2_) | (have H2_ := (Option.bind_some _ _).symm.trans H; with_reducible exact H2_) | with_reducible exact H | (rw [hy155]; exact H) | exact H
             have Ny155 := Aside0.mk hy155
             clear hy155
             obtain ⟨y158, hy158⟩ : ∃ y_ : List (S68), y_ = (([] : List (S68))) := ⟨_, rfl⟩
             replace H : ((some (x3_1.take (x5_2 : Int).toNat : List (S68))).bind fun y161 => (if y158.length + y161.length < 8796093022208 then ((some (y158 ++ y161 : List (S68))).bind fun y165 => (if y165.length + y155.length < 8796093022208 then (spec_HeapOrder.l0 k2 (y165 ++ y155) (wrap64 (x4_1 + 1)) l0_0) else (none))) else (none))) = some r := by first | (rw [hy158]; with_reducible exact H) | (have H2_ := (Option.bind_some _ _).symm.trans H; rw [hy158]; with_reducible exact H2_) | (have H2_ := (Option.bind_some _ _).symm.trans H; with_reducible exact H2_) | with_reducible exact H | (rw [hy158]; exact H) | exact H
             have Ny158 := Aside0.mk hy158
             clear hy158
             have c47b0 := eq_true (of_decide_eq_true (by first | (with_reducible assumption) | assumption) : 0 ≤ x5_2)
             have c48b0 := eq_true (of_decide_eq_true (by first | (with_reducible assumption) | assumption) : x5_2 ≤ (x3_1.length : Int))
             obtain ⟨y161, hy161⟩ : ∃ y_ : List (S68), y_ = (x3_1.take (x5_2 : Int).toNat) := ⟨_, rfl⟩
             replace H : (if y158.length + y161.length < 8796093022208 then ((some (y158 ++ y161 : List (S68))).bind fun y165 => (if y165.length + y155.length < 8796093022208 then (spec_HeapOrder.l0 k2 (y165 ++ y155) (wrap64 (x4_1 + 1)) l0_0) else (none))) else (none)) = some r := by first | (rw [hy161]; with_reducible exact H) | (have H2_ := (Option.bind_some _ _).symm.trans H; rw [hy161]; with_reducible exact H2_) | (have H2_ := (Option.bind_some _ _).symm.trans H; with_reducible exact H2_) | with_reducible exact H | (rw [hy161]; exact H) | exact H
             have Ny161 := Aside0.mk hy161
             clear hy161
             by_cases c49 : y158.length + y161.length < 8796093022208
             ·rw [if_pos c49] at H
              have LMc49 := Aside0.mk c49
              clear c49
              obtain ⟨y165, hy165⟩ : ∃ y_ : List (S68), y_ = (y158 ++ y161) := ⟨_, rfl⟩
              replace H : (if y165.length + y155.length < 8796093022208 then (spec_HeapOrder.l0 k2 (y165 ++ y155) (wrap64 (x4_1 + 1)) l0_0) else (none)) = some r := by first | (rw [hy165]; with_reducible exact H) | (have H2_ := (Option.bind_some _ _).symm.trans H; rw [hy165]; with_reducible exact H2_) | (have H2_ := (Option.bind_some _ _).symm.trans H; with_reducible exact H2_) | with_reducible exact H | (rw [hy165]; exact H) | exact H
              have Ny165 := Aside0.mk hy165
              clear hy165
              by_cases c50 : y165.length + y155.length < 8796093022208
              ·rw [if_pos c50] at H
               have LMc50 := Aside0.mk c50
               clear c50
               obtain ⟨y168, hy168⟩ : ∃ y_ : List (S68), y_ = (y165 ++ y155) := ⟨_, rfl⟩
               replace H : (spec_HeapOrder.l0 k2 y168 (wrap64 (x4_1 + 1)) l0_0) = some r := by first | (rw [hy168]; with_reducible exact H) | (have H2_ := (Option.bind_some _ _).symm.trans H; rw [hy168]; with_reducible exact H2_) | (have H2_ := (Option.bind_some _ _).symm.trans H; with_reducible exact H2_) | with_reducible exact H | (rw [hy168]; exact H) | exact H
               have Ny168 := Aside0.mk hy168
               clear hy168
               have H' := Aside0.mk H
               clear H
               try go_wp2
               have n0_ := Aside0.mk (Kd.R_drew HO_3.out); have n1_ := Aside0.mk (blk_drew BK115.out); have n2_ := Aside0.mk (below_drew1 HB.out); clear HO_3; clear BK115; clear HB; have HO_3 := n0_; have BK115 := n1_; have HB := n2_; clear n0_ n1_ n2_
               refine start_ (n := 15) (S := fun w' => True) (ds := []) (bs 15 0) (by kernel_rfl) rfl rfl trivial (fun hHeld => ?_); refine with_tabW spec_HeapOrder.tab8 spec_HeapOrder.bits8 (fun HT_ HW_ => ?_)
               generalize wr.drew = w51 at HO_3 BK115 HB hHeld ⊢
               refine pure_s (i := 0) (N := some 21) (bs 15 1) (any_of HT_.out (by kernel_rfl)) (h := ?_)
               refine pure_s (i := 1) (N := some 22) (bs 15 2) (any_of HT_.out (by kernel_rfl)) (h := ?_)
               refine pure_s (i := 2) (N := some 23) (bs 15 3) (any_of HT_.out (by kernel_rfl)) (h := ?_)
               refine pure_u (i := 3) (N := some 24) (bs 15 4) (any_of HT_.out (by kernel_rfl)) (h := ?_)
               refine pure_u (i := 4) (N := some 25) (bs 15 5) (any_of HT_.out (by kernel_rfl)) (h := ?_)
               refine pure_u (i := 5) (N := some 26) (bs 15 6) (any_of HT_.out (by kernel_rfl)) (h := ?_)
               refine pure_u (i := 6) (N := some 27) (bs 15 7) (any_of HT_.out (by kernel_rfl)) (h := ?_)
               refine pure_u (i := 7) (N := some 28) (bs 15 8) (any_of HT_.out (by kernel_rfl)) (h := ?_)
               refine pure_u (i := 8) (N := some 29) (bs 15 9) (any_of HT_.out (by kernel_rfl)) (h := ?_)
               refine pure_u (i := 9) (N := some 30) (bs 15 10) (any_of HT_.out (by kernel_rfl)) (h := ?_)
               refine pure_u (i := 10) (N := some 31) (bs 15 11) (any_of HT_.out (by kernel_rfl)) (h := ?_)
               refine pure_u (i := 11) (N := some 32) (bs 15 12) (any_of HT_.out (by kernel_rfl)) (h := ?_)
               refine pure_u (i := 12) (N := some 33) (bs 15 13) (any_of HT_.out (by kernel_rfl)) (h := ?_)
               refine pure_u (i := 13) (N := some 34) (bs 15 14) (any_of HT_.out (by kernel_rfl)) (h := ?_)
               refine pure_s (i := 14) (N := some 35) (bs 15 15) (any_of HT_.out (by kernel_rfl)) (h := ?_)
               refine done_ (done_of HT_.out (by kernel_rfl)) ?_
               try go_wp2
               have n0_ := Aside0.mk (Kd.R_drew HO_3.out); have n1_ := Aside0.mk (blk_drew BK115.out); have n2_ := Aside0.mk (below_drew1 HB.out); clear HO_3; clear BK115; clear HB; have HO_3 := n0_; have BK115 := n1_; have HB := n2_; clear n0_ n1_ n2_
               have p147 : 0 ≤ (x4_1 : Int) := of_decide_eq_true (by first | (with_reducible assumption) | assumption)
               have q147 : x4_1 < (l0_0.length : Int) := of_decide_eq_true (by first | (with_reducible assumption) | assumption)
               obtain ⟨ad147, e147, hx147_0, hx147_1⟩ := at_T68 HR0_0.out x4_1 p147 q147
               have hw147_1 := hx147_1; have hw147_0 := hx147_0
               cases e147
               replace hx147_0 := (HB.out.cell (World.block_lt_of_cell? w _ hx147_0)).trans hx147_0
               replace hx147_1 := (HB.out.cell (World.block_lt_of_cell? w _ hx147_1)).trans hx147_1
               replace p147 := eq_true p147
               replace q147 := eq_true q147
               have q53 : (x5_2 : Int) ≤ ((x3_1.length : Int) : Int) := of_decide_eq_true (by first | (with_reducible assumption) | assumption)
               obtain ⟨i053, hi053, _, hsz53, _⟩ := info_parts info68
               have hroom53 : x3_1.length ≤ co11 := (Kd.R_reads' HO_3.out).2.1
               have hC53 : Kd.C k68 _ Ao11 x3_1.length x3_1 := (Kd.R_reads' HO_3.out).2.2
               have q053 : (0 : Int) ≤ (x5_2 : Int) := of_decide_eq_true (by first | (with_reducible assumption) | assumption)
               have hcut53 := cut_from (P := Try.prog) 26 68 .i64 Try.underlying26 hi053 2 hsz53 Ao11 x3_1.length co11 x5_2 q053 q53
               have hr53 := Kd.C_drop (m := (x5_2 : Int).toNat) (c := co11) hC53 (by omega) hroom53
               obtain ⟨A53, hA53⟩ : ∃ A1, A1 = (if co11 = (x5_2 : Int).toNat then Ao11 else (Ao11 : Option Addr).map (·.add ((x5_2 : Int).toNat * 2))) := ⟨_, rfl⟩
               obtain ⟨c53, hc53⟩ : ∃ c1, c1 = co11 - (x5_2 : Int).toNat := ⟨_, rfl⟩
               have hy53 : y151.length = x3_1.length - (x5_2 : Int).toNat := (by rw [Ny151.out, List.length_drop] <;> omega)
               rw [show (x3_1).drop (x5_2 : Int).toNat = y151 from Ny151.out.symm] at hr53
               replace hr53 : Kd.C k68 _ A53 y151.length y151 := (by rw [hA53]; exact hr53)
               rw [← hy53, ← hA53, ← hc53] at hcut53
               have HR154 := Aside0.mk hr53
               have HC154 := Aside0.mk (show y151.length ≤ c53 from by rw [hy53, hc53]; exact Nat.sub_le_sub_right hroom53 _)
               clear hr53 hC53 hroom53 hi053 hsz53 hc53
               have KY53 := Aside0.mk hy53
               have KA53 := Aside0.mk hA53
               clear hy53 hA53
               have KL53 := Aside0.mk (show (x5_2 : Int).toNat ≤ x3_1.length from by omega)
               replace q53 := eq_true q53
               refine start_ (n := 11) (S := fun w' => w'.cell? ⟨gb115, 0, none⟩ = some (.slice (some ad147) l0_0.length c0_0) ∧ w'.cell? (ad147.add ((x4_1).toNat * 2)) = some (.int .i64 ((rd_T68 l0_0 x4_1).f0)) ∧ w'.cell? ⟨(ad147.add ((x4_1).toNat * 2)).block, (ad147.add ((x4_1).toNat * 2)).off + 1, none⟩ = some (.int .i64 ((rd_T68 l0_0 x4_1).f1))) (ds := []) (bs 11 0) (by kernel_rfl) rfl rfl ⟨bt_ BK115 0, ((HB.out.cell (World.block_lt_of_cell? w _ hw147_0)).trans hw147_0), ((HB.out.cell (World.block_lt_of_cell? w _ hw147_1)).trans hw147_1)⟩ (fun hHeld => ?_); refine with_tabW spec_HeapOrder.tab10 spec_HeapOrder.bits10 (fun HT_ HW_ => ?_)
               generalize w51.drew = w52 at HO_3 BK115 HB HR154 hx147_0 hx147_1 hHeld ⊢
               refine pure_s (i := 0) (N := some 38) (bs 11 1) (any_of HT_.out (by kernel_rfl)) (h := ?_)
               refine pure_s (i := 2) (N := some 40) #[oT,oF,oT,oF,oF,oF,oF,oF,oF,oF,oF] (any_of HT_.out (by kernel_rfl)) (h := ?_)
               refine pure_s (i := 6) (N := some 44) #[oT,oF,oT,oF,oF,oF,oT,oF,oF,oF,oF] (any_of HT_.out (by kernel_rfl)) (h := ?_)
               refine pure_s (i := 7) (N := some 45) #[oT,oF,oT,oF,oF,oF,oT,oT,oF,oF,oF] (any_of HT_.out (by kernel_rfl)) (h := ?_)
               refine pure_s (i := 8) (N := some 46) #[oT,oF,oT,oF,oF,oF,oT,oT,oT,oF,oF] (any_of HT_.out (by kernel_rfl)) (h := ?_)
               refine take_ (i := 1) (N := some 39) (v := ?_) (a' := ?_) #[oT,oT,oT,oF,oF,oF,oT,oT,oT,oF,oF] rfl rfl (take_ofW HT_.out HW_.out (by kernel_rfl)) (fun _ _ _ h => h) (Or.inl ⟨by rfl, ?_⟩) hHeld ?_ ?_
               rotate_left
               ·rintro w' ⟨s0, s1, s2⟩
                go_simp
                with_reducible rfl
               rotate_left
               ·simp only [Act.put, List.setIfInBounds_toArray, List.set_cons_zero, List.set_cons_succ, i64_w, i32_w]
                rfl
               refine pure_s (i := 3) (N := some 41) #[oT,oT,oT,oT,oF,oF,oT,oT,oT,oF,oF] (any_of HT_.out (by kernel_rfl)) (h := ?_)
               refine take_ (i := 4) (N := some 42) (v := ?_) (a' := ?_) #[oT,oT,oT,oT,oT,oF,oT,oT,oT,oF,oF] rfl rfl (take_ofW HT_.out HW_.out (by kernel_rfl)) (fun _ _ _ h => h) (Or.inl ⟨by rfl, ?_⟩) hHeld ?_ ?_
               rotate_left
               ·rintro w' ⟨s0, s1, s2⟩
                go_simp
                with_reducible rfl
               rotate_left
               ·simp only [Act.put, List.setIfInBounds_toArray, List.set_cons_zero, List.set_cons_succ, i64_w, i32_w]
                rfl
               refine one_ (i := 5) (N := some 43) (bs 11 9) rfl rfl (one_of HT_.out (by kernel_rfl)) (by decide) (fun K hK => ?_)
               refine Kd.R_lit_step k68 _ 68 ?hg (N := 43) ?hd (xs := ([(⟨(rd_T68 l0_0 x4_1).f0, (rd_T68 l0_0 x4_1).f1⟩ : S68)] : List (S68))) (inner := [.int .i64 ((rd_T68 l0_0 x4_1).f0), .int .i64 ((rd_T68 l0_0 x4_1).f1)]) (ok := fun _ => True) (okp := fun _ => True) ?hr ?hp (fun _ hk => by first | exact hk | grind) trivial (Below.refl _ _) (Nat.le_refl _) (by simp) ?_; (case hd => rfl); (case hg => rfl); (case hr => first | (go_simp; done) | (go_simp; rfl)); (case hp => exact (Reps.c2 (show Kd.M k68 _ _ _ (⟨(rd_T68 l0_0 x4_1).f0, (rd_T68 l0_0 x4_1).f1⟩ : S68) [.int .i64 ((rd_T68 l0_0 x4_1).f0), .int .i64 ((rd_T68 l0_0 x4_1).f1)] from (k68_mkM _ _ _ (⟨(rd_T68 l0_0 x4_1).f0, (rd_T68 l0_0 x4_1).f1⟩ : S68) )) (Reps.none _ _)))
               intro v149 w54 ho55 hb hg_ hnew_
               clear hg_ hnew_
               (first | rw [← Ny148.out] at ho55 | (simp only [Int.reduceToNat] at ho55; rw [← Ny148.out] at ho55))
               have n0_ := Aside0.mk (Kd.R_elder' (kr_ HO_3) (Kd.R_base ho55) hb); have n1_ := Aside0.mk (Kd.R_lower (Kd.R_new' ho55 (Kd.R_lt (kr_ HO_3))) (below_size (bf_ HB))); have n2_ := bb_ BK115 hb
               have n3_ := Aside0.mk (Kd.C_below (by repeat (first | (with_reducible exact HR154.out) | (with_reducible refine Kd.C_alloc ?_ _) | (with_reducible refine Kd.C_drewN ?_ _) | (with_reducible refine Kd.C_drew ?_) | exact HR154.out)) hb)
               have n4_ := Aside0.mk (below_step (bf_ HB) hb); clear HO_3; clear BK115; clear HR154; clear HB; have HO_3 := n0_; have HO150 := n1_; have BK115 := n2_
               have HR154 := n3_
               have HB := n4_; clear n0_ n1_ n2_ n3_ n4_; clear hb ho55
               refine hK.out _ _ ⟨bt_ BK115 0, ((HB.out.cell (World.block_lt_of_cell? w _ hw147_0)).trans hw147_0), ((HB.out.cell (World.block_lt_of_cell? w _ hw147_1)).trans hw147_1)⟩ (fun hHeld => ?_)
               clear hK K
               refine norm_ (a' := ?_) ?_ ?_
               rotate_left
               ·show Act.put _ (some 43) _ = _
                simp only [Act.put, List.setIfInBounds_toArray, List.set_cons_zero, List.set_cons_succ, i64_w, i32_w]
                rfl
               refine one_ (i := 9) (N := some 47) (bs 11 10) rfl rfl (one_of HT_.out (by kernel_rfl)) (by decide) (fun K hK => ?_)
               refine Kd.R_append_rows_step k68 (w0 := w) w.heap.size (by rfl) (.tmp 43) (.tmp 46) 26 68 (.agg #[(.int .i64 0), (.int .i64 0)]) 16 rfl Try.underlying26 info68 rfl (by decide) (by omega) v149 y148 y151 _ _ _ (fun k_ => some k_ ≠ (.slice Ao11 x3_1.length co11 : Value).ownBlock) (fun _ => False) rfl rfl ?aO ?aR (fun _ _ h => h) (fun _ h => h.elim) ?aF ?aB ?aS ?aL ?_
               (case aR => repeat (first | exact (by repeat (first | (with_reducible exact HR154.out) | (with_reducible refine Kd.C_alloc ?_ _) | (with_reducible refine Kd.C_drewN ?_ _) | (with_reducible refine Kd.C_drew ?_) | exact HR154.out)) | (with_reducible refine Kd.C_alloc ?_ _) | (with_reducible refine Kd.C_drewN ?_ _) | (with_reducible refine Kd.C_drew ?_)))
               (case aB => exact (bf_ HB))
               (case aF => exact (fun k_ hk => by first | exact Kd.fresh' (Kd.R_lt (kr_ HO_3)) k_ hk | grind))
               (case aO => exact (by (with_reducible repeat (first | apply Kd.R_alloc | apply Kd.R_drewN | apply Kd.R_drew)); exact Kd.R_mono HO150.out (fun _ hk => by first | exact hk.2 | grind)))
               (case aS => exact (below_size (bf_ HB)))
               (case aL => have := LMc46.out; omega)
               intro v156 w56 ho hb hg hat
               rw [← Ny155.out] at ho
               have n0_ := Aside0.mk (Kd.R_after (ok := (fun _ => True)) (kr_ HO_3) hg hat)
               have n1_ := Aside0.mk (blk_grown (g := gb115) (o := .cells #[.slice (some ad147) l0_0.length c0_0] 29 (0, 0)) (bk_ BK115) hg (Kd.R_ne HO150.out BK115.out (by decide)))
               have n2_ := Aside0.mk (hb)
               have n3_ := Aside0.mk ((show Kd.C k68 w56 A53 y151.length y151 from by rw [Ny151.out, KA53.out]; exact Kd.C_drop (m := (x5_2 : Int).toNat) (c := co11) ((Kd.R_reads' (Kd.R_after (ok := (fun _ => True)) (kr_ HO_3) hg hat)).2.2) KL53.out ((Kd.R_reads' (Kd.R_after (ok := (fun _ => True)) (kr_ HO_3) hg hat)).2.1)))
               have n4_ := Aside0.mk (ho); clear HO_3; clear BK115; clear HB; clear HR154; clear HO150; have HO_3 := n0_; have BK115 := n1_; have HB := n2_
               have HR154 := n3_
               have HO157 := n4_; clear n0_ n1_ n2_ n3_ n4_; clear ho hb hg hat
               refine hK.out _ _ ⟨bt_ BK115 0, ((HB.out.cell (World.block_lt_of_cell? w _ hw147_0)).trans hw147_0), ((HB.out.cell (World.block_lt_of_cell? w _ hw147_1)).trans hw147_1)⟩ (fun hHeld => ?_)
               clear hK K
               refine norm_ (a' := ?_) ?_ ?_
               rotate_left
               ·show Act.put _ (some 47) _ = _
                simp only [Act.put, List.setIfInBounds_toArray, List.set_cons_zero, List.set_cons_succ, i64_w, i32_w]
                rfl
               refine pure_s (i := 10) (N := some 6) (bs 11 11) (any_of HT_.out (by kernel_rfl)) (h := ?_)
               refine done_ (done_of HT_.out (by kernel_rfl)) ?_
               try go_wp2_with (first | ((with_reducible refine gate_dst (N := 48) rfl ?_); refine Kd.R_lit k68 _ 68 ?hg (N := 48) ?hd (xs := ([] : List (S68))) (inner := []) (ok := fun _ => True) (okp := fun _ => True) ?hr ?hp (fun _ hk => by first | exact hk | grind) trivial (Below.refl _ _) (Nat.le_refl _) (by simp) ?_; (case hd => rfl); (case hg => rfl); (case hr => first | (go_simp; done) | (go_simp; rfl)); (case hp => exact (Reps.none _ _)); intro v159 w57 ho58 hb hg_ hnew_; clear hg_ hnew_; (first | rw [← Ny158.out] at ho58 | (simp only [Int.reduceToNat] at ho58; rw [← Ny158.out] at ho58)); have n0_ := Aside0.mk (Kd.R_elder' (kr_ HO_3) (Kd.R_base ho58) hb); have n1_ := Aside0.mk (Kd.R_elder' (kr_ HO157) (Kd.R_base ho58) hb); have n2_ := Aside0.mk (Kd.R_lower (Kd.R_new' (Kd.R_new' ho58 (Kd.R_lt (kr_ HO_3))) (Kd.R_lt (kr_ HO157))) (below_size (bf_ HB))); have n3_ := bb_ BK115 hb; have n4_ := Aside0.mk (Kd.C_below (by repeat (first | (with_reducible exact HR154.out) | (with_reducible refine Kd.C_alloc ?_ _) | (with_reducible refine Kd.C_drewN ?_ _) | (with_reducible refine Kd.C_drew ?_) | exact HR154.out)) hb); have n5_ := Aside0.mk (below_step (bf_ HB) hb); clear HO_3; clear HO157; clear BK115; clear HR154; clear HB; have HO_3 := n0_; have HO157 := n1_; have HO160 := n2_; have BK115 := n3_; have HR154 := n4_; have HB := n5_; clear n0_ n1_ n2_ n3_ n4_ n5_; clear hb ho58; have q59 : (x5_2 : Int) ≤ ((x3_1.length : Int) : Int) := of_decide_eq_true (by first | (with_reducible assumption) | assumption); obtain ⟨i059, hi059, _, hsz59, _⟩ := info_parts info68; have hroom59 : x3_1.length ≤ co11 := (Kd.R_reads' HO_3.out).2.1; have hC59 : Kd.C k68 _ Ao11 x3_1.length x3_1 := (Kd.R_reads' HO_3.out).2.2; have hcut59 := cut_to (P := Try.prog) 26 68 .i64 Try.underlying26 hi059 Ao11 x3_1.length co11 x5_2 (of_decide_eq_true (by first | (with_reducible assumption) | assumption)) q59 hroom59; have hr59 := Kd.C_take (m := (x5_2 : Int).toNat) hC59 (by omega); have hy59 : y161.length = (x5_2 : Int).toNat := (by rw [Ny161.out, List.length_take]; omega); rw [← Ny161.out] at hr59; rw [← hy59] at hcut59; have HR164 := Aside0.mk hr59; have HC164 := Aside0.mk (show y161.length ≤ co11 from by omega); clear hr59 hC59 hroom59 hi059 hsz59; have KY59 := Aside0.mk hy59; clear hy59; have KL59 := Aside0.mk (show (x5_2 : Int).toNat ≤ x3_1.length from by omega); replace q59 := eq_true q59) | ((with_reducible refine gate_builtin (b := .append) (xs := #[.tmp 48, .tmp 51]) rfl ?_); at_builtin; refine Kd.R_append_rows k68 (w0 := w) w.heap.size rfl (.tmp 48) (.tmp 51) 26 68 (.agg #[(.int .i64 0), (.int .i64 0)]) 16 rfl Try.underlying26 info68 rfl (by decide) (by omega) v159 y158 y161 _ _ _ (fun k_ => some k_ ≠ (.slice Ao11 x3_1.length co11 : Value).ownBlock ∧ some k_ ≠ (v156 : Value).ownBlock) (fun _ => False) rfl rfl ?aO ?aR (fun _ _ h => h) (fun _ h => h.elim) ?aF ?aB ?aS ?aL ?_; (case aR => repeat (first | exact (by repeat (first | (with_reducible exact HR164.out) | (with_reducible refine Kd.C_alloc ?_ _) | (with_reducible refine Kd.C_drewN ?_ _) | (with_reducible refine Kd.C_drew ?_) | exact HR164.out)) | (with_reducible refine Kd.C_alloc ?_ _) | (with_reducible refine Kd.C_drewN ?_ _) | (with_reducible refine Kd.C_drew ?_))); (case aB => exact (bf_ HB)); (case aF => exact (fun k_ hk => by first | exact ⟨Kd.fresh' (Kd.R_lt (kr_ HO_3)) k_ hk, Kd.fresh' (Kd.R_lt (kr_ HO157)) k_ hk⟩ | grind)); (case aO => exact (by (with_reducible repeat (first | apply Kd.R_alloc | apply Kd.R_drewN | apply Kd.R_drew)); exact Kd.R_mono HO160.out (fun _ hk => by first | exact ⟨hk.1.2, hk.2⟩ | grind))); (case aS => exact (below_size (bf_ HB))); (case aL => have := LMc49.out; omega); intro v166 w60 ho hb hg hat; rw [← Ny165.out] at ho; have n0_ := Aside0.mk (Kd.R_after (ok := (fun k_ => some k_ ≠ (v156 : Value).ownBlock)) (by (with_reducible repeat (first | apply Kd.R_alloc | apply Kd.R_drewN | apply Kd.R_drew)); exact Kd.R_mono HO_3.out (fun _ hk => by first | exact ⟨hk.1.2, hk.2⟩ | grind)) hg hat); have n1_ := Aside0.mk (blk_grown (g := gb115) (o := .cells #[.slice (some ad147) l0_0.length c0_0] 29 (0, 0)) (bk_ BK115) hg (Kd.R_ne HO160.out BK115.out (by decide))); have n2_ := Aside0.mk (Kd.R_after (ok := (fun k_ => some k_ ≠ (.slice Ao11 x3_1.length co11 : Value).ownBlock)) (kr_ HO157) hg hat); have n3_ := Aside0.mk (hb); have n4_ := Aside0.mk ((show Kd.C k68 w60 A53 y151.length y151 from by rw [Ny151.out, KA53.out]; exact Kd.C_drop (m := (x5_2 : Int).toNat) (c := co11) ((Kd.R_reads' (Kd.R_after (ok := (fun k_ => some k_ ≠ (v156 : Value).ownBlock)) (by (with_reducible repeat (first | apply Kd.R_alloc | apply Kd.R_drewN | apply Kd.R_drew)); exact Kd.R_mono HO_3.out (fun _ hk => by first | exact ⟨hk.1.2, hk.2⟩ | grind)) hg hat)).2.2) KL53.out ((Kd.R_reads' (Kd.R_after (ok := (fun k_ => some k_ ≠ (v156 : Value).ownBlock)) (by (with_reducible repeat (first | apply Kd.R_alloc | apply Kd.R_drewN | apply Kd.R_drew)); exact Kd.R_mono HO_3.out (fun _ hk => by first | exact ⟨hk.1.2, hk.2⟩ | grind)) hg hat)).2.1))); have n5_ := Aside0.mk ((show Kd.C k68 w60 Ao11 y161.length y161 from by rw [Ny161.out]; exact Kd.C_take (m := (x5_2 : Int).toNat) ((Kd.R_reads' (Kd.R_after (ok := (fun k_ => some k_ ≠ (v156 : Value).ownBlock)) (by (with_reducible repeat (first | apply Kd.R_alloc | apply Kd.R_drewN | apply Kd.R_drew)); exact Kd.R_mono HO_3.out (fun _ hk => by first | exact ⟨hk.1.2, hk.2⟩ | grind)) hg hat)).2.2) KL59.out)); have n6_ := Aside0.mk (ho); clear HO_3; clear BK115; clear HO157; clear HB; clear HR154; clear HR164; clear HO160; have HO_3 := n0_; have BK115 := n1_; have HO157 := n2_; have HB := n3_; have HR154 := n4_; have HR164 := n5_; have HO167 := n6_; clear n0_ n1_ n2_ n3_ n4_ n5_ n6_; clear ho hb hg hat; obtain ⟨Ao62, co62, eo62⟩ := Kd.R_slice HO157.out; subst eo62) | ((with_reducible refine gate_builtin (b := .append) (xs := #[.tmp 52, .tmp 53]) rfl ?_); at_builtin; refine Kd.R_append_rows k68 (w0 := w) w.heap.size rfl (.tmp 52) (.tmp 53) 26 68 (.agg #[(.int .i64 0), (.int .i64 0)]) 16 rfl Try.underlying26 info68 rfl (by decide) (by omega) v166 y165 y155 _ _ _ (fun k_ => some k_ ≠ (.slice Ao11 x3_1.length co11 : Value).ownBlock ∧ some k_ ≠ (.slice Ao62 y155.length co62 : Value).ownBlock) (fun _ => False) rfl rfl ?aO ?aR (fun _ _ h => h) (fun _ h => h.elim) ?aF ?aB ?aS ?aL ?_; (case aR => exact cr_ HO157); (case aB => exact (bf_ HB)); (case aF => exact (fun k_ hk => by first | exact ⟨Kd.fresh' (Kd.R_lt (kr_ HO_3)) k_ hk, Kd.fresh' (Kd.R_lt (kr_ HO157)) k_ hk⟩ | grind)); (case aO => exact (kr_ HO167)); (case aS => exact (below_size (bf_ HB))); (case aL => have := LMc50.out; omega); intro v169 w61 ho hb hg hat; rw [← Ny168.out] at ho; have n0_ := Aside0.mk (Kd.R_after (ok := (fun k_ => some k_ ≠ (.slice Ao62 y155.length co62 : Value).ownBlock)) (kr_ HO_3) hg hat); have n1_ := Aside0.mk (blk_grown (g := gb115) (o := .cells #[.slice (some ad147) l0_0.length c0_0] 29 (0, 0)) (bk_ BK115) hg (Kd.R_ne HO167.out BK115.out (by decide))); have n2_ := Aside0.mk (Kd.R_after (ok := (fun k_ => some k_ ≠ (.slice Ao11 x3_1.length co11 : Value).ownBlock)) (kr_ HO157) hg hat); have n3_ := Aside0.mk (hb); have n4_ := Aside0.mk ((show Kd.C k68 w61 A53 y151.length y151 from by rw [Ny151.out, KA53.out]; exact Kd.C_drop (m := (x5_2 : Int).toNat) (c := co11) ((Kd.R_reads' (Kd.R_after (ok := (fun k_ => some k_ ≠ (.slice Ao62 y155.length co62 : Value).ownBlock)) (kr_ HO_3) hg hat)).2.2) KL53.out ((Kd.R_reads' (Kd.R_after (ok := (fun k_ => some k_ ≠ (.slice Ao62 y155.length co62 : Value).ownBlock)) (kr_ HO_3) hg hat)).2.1))); have n5_ := Aside0.mk ((show Kd.C k68 w61 Ao11 y161.length y161 from by rw [Ny161.out]; exact Kd.C_take (m := (x5_2 : Int).toNat) ((Kd.R_reads' (Kd.R_after (ok := (fun k_ => some k_ ≠ (.slice Ao62 y155.length co62 : Value).ownBlock)) (kr_ HO_3) hg hat)).2.2) KL59.out)); have n6_ := Aside0.mk (ho); clear HO_3; clear BK115; clear HO157; clear HB; clear HR154; clear HR164; clear HO167; have HO_3 := n0_; have BK115 := n1_; have HO157 := n2_; have HB := n3_; have HR154 := n4_; have HR164 := n5_; have HO170 := n6_; clear n0_ n1_ n2_ n3_ n4_ n5_ n6_; clear ho hb hg hat))
               go_roundg k2
               case measure => have := HK1.out; have := HK2.out; omega
               case rel => exact ⟨(y168), (wrap64 (x4_1 + 1)), (by first | rfl | (simp; done) | (simp [*]; done)), H', ⟨by have := HK1.out; have := HK2.out; omega⟩, ⟨by (with_reducible repeat (first | apply Kd.R_alloc | apply Kd.R_drewN | apply Kd.R_drew)); exact Kd.R_mono HO170.out (fun _ hk => by first | exact trivial | grind)⟩, ⟨bk_ BK115⟩, ⟨bf_ HB⟩⟩
              ·rw [if_neg c50] at H
               exact absurd H (by simp)
             ·rw [if_neg c49] at H
              exact absurd H (by simp)
            ·rw [if_neg c46] at H
             exact absurd H (by simp)
           ·rw [if_neg c45] at H
            exact absurd H (by simp)
          ·rw [if_neg c44] at H
           exact absurd H (by simp)
         ·rw [if_neg c43] at H
          exact absurd H (by simp)
        ·rw [if_neg c42] at H
         exact absurd H (by simp)
    ·rw [if_neg c9] at H
     have c9b0 : decide (x4_1 < (l0_0.length : Int)) = false := decide_eq_false c9
     clear c9
     obtain rfl := Option.some.inj H
     have hcz63_0 := bc_ BK115 0 (.slice A0_0 l0_0.length c0_0) rfl; have hfz63_0 := blk_frozen BK115.out 0
     go_wp2
     go_ret
     exact ⟨_, by first | rfl | (simp [errW_none, errW_some] <;> rfl) | (simp [*, errW_none, errW_some] <;> rfl), by (with_reducible repeat (first | apply Kd.R_alloc | apply Kd.R_drewN | apply Kd.R_drew)); exact HO_3.out, bf_ HB⟩
 ·replace c3 := Bool.eq_false_iff.mpr c3
  subst c3
  have H1 : (some y116) = some r := by rw [if_neg (show ¬ (false = true) by decide)] at H; exact H
  clear H
  have H := H1
  clear H1
  obtain rfl := Option.some.inj H
  go_enter Try.func16, Try.ntmps16
  go_wp2_with (first | ((with_reducible refine gate_dst (N := 1) rfl ?_); refine box_event ?hg (N := 1) ?hd (cs := #[.slice A0_0 l0_0.length c0_0]) (t := 29) ?hr ?_; (case hd => rfl); (case hg => rfl); (case hr => first | (go_simp; done) | (go_simp; rfl)); intro gb115 hg w64 hbox hb; have n0_ := Aside0.mk (below_step (be_ HB) hb); have n1_ := Aside0.mk (hbox); have n2_ := gw_ HB hg; have n3_ := gw_ HB hg; clear HB; have HB := n0_; have BK115 := n1_; have GW115 := n2_; have GE115 := n3_; clear n0_ n1_ n2_ n3_; clear hb hbox hg) | ((with_reducible refine gate_dst (N := 7) rfl ?_); refine Kd.R_lit k68 _ 68 ?hg (N := 7) ?hd (xs := ([] : List (S68))) (inner := []) (ok := fun _ => True) (okp := fun _ => True) ?hr ?hp (fun _ hk => by first | exact hk | grind) trivial (Below.refl _ _) (Nat.le_refl _) (by simp) ?_; (case hd => rfl); (case hg => rfl); (case hr => first | (go_simp; done) | (go_simp; rfl)); (case hp => exact (Reps.none _ _)); intro v117 w65 ho66 hb hg_ hnew_; clear hg_ hnew_; (first | rw [← Ny116.out] at ho66 | (simp only [Int.reduceToNat] at ho66; rw [← Ny116.out] at ho66)); have n0_ := Aside0.mk (Kd.R_lower ho66 (below_size (bf_ HB))); have n1_ := bb_ BK115 hb; have n2_ := Aside0.mk (below_step (bf_ HB) hb); clear BK115; clear HB; have HO118 := n0_; have BK115 := n1_; have HB := n2_; clear n0_ n1_ n2_; clear hb ho66; have hcz67_0 := bc_ BK115 0 (.slice A0_0 l0_0.length c0_0) rfl; have hfz67_0 := blk_frozen BK115.out 0) | ((with_reducible refine gate_callee (f := 40) rfl ?_); refine goesL_ (some 9) rfl rfl Try.func40 (by kernel_rfl) rfl #[.agg #[.slice A0_0 l0_0.length c0_0]] rfl mt_ ?_; (with_reducible refine (spec_HeapOk.calls k _ _ l0_0 false _ ?side1 ?side2 A2.out).mono ?_); (case side1 => repeat (first | exact (Kd.C_below HR0_0.out HB.out) | (with_reducible refine Kd.C_alloc ?_ _) | (with_reducible refine Kd.C_drewN ?_ _) | (with_reducible refine Kd.C_drew ?_))); (case side2 => exact HC0_0.out); rintro e w68 ⟨rfl, hb⟩; refine ⟨_, rfl, ?_⟩; have n0_ := Aside0.mk (Kd.R_below (kr_ HO118) hb); have n1_ := bb_ BK115 hb; have n2_ := Aside0.mk (below_step (bf_ HB) hb); clear HO118; clear BK115; clear HB; have HO118 := n0_; have BK115 := n1_; have HB := n2_; clear n0_ n1_ n2_; (try clear hb); (try clear hb2); (try clear hk); (try clear hi)))
  go_ret
  exact ⟨_, by first | rfl | (simp [errW_none, errW_some] <;> rfl) | (simp [*, errW_none, errW_some] <;> rfl), by (with_reducible repeat (first | apply Kd.R_alloc | apply Kd.R_drewN | apply Kd.R_drew)); exact HO118.out, bf_ HB⟩

/-! ### laws_toItem: function 113 -/
def laws_toItem.f (a0_0 : Int) (a0_1 : Int) : Option (Int × Int) := some (a0_0, a0_1)
set_option maxHeartbeats 8000000 in
set_option maxRecDepth 100000 in
theorem laws_toItem.calls (a0_0 : Int) (a0_1 : Int) (r1 : Int) (r2 : Int) (w : World) (h : laws_toItem.f a0_0 a0_1 = some (r1, r2)) :
  Calls Try.prog 113 #[.agg #[.int .i64 a0_0, .int .i64 a0_1]] w fun e w' => e = .returned (.agg #[.int .i64 r1, .int .i64 r2]) ∧ Below w.heap.size w w' := by
 have hu126 := Try.underlying126; have hu68 := Try.underlying68; have HB := Aside0.mk (Below.refl w.heap.size w)
 have H : (some (a0_0, a0_1)) = some (r1, r2) := h
 clear h
 simp only [Option.some.injEq, Prod.mk.injEq] at H
 obtain ⟨rfl, rfl⟩ := H
 go_enter Try.func113, Try.ntmps113
 go_wp2_with (first | ((with_reducible refine gate_dst (N := 1) rfl ?_); refine box_event ?hg (N := 1) ?hd (cs := #[.int .i64 a0_0, .int .i64 a0_1]) (t := 126) ?hr ?_; (case hd => rfl); (case hg => rfl); (case hr => first | (go_simp; done) | (go_simp; rfl)); intro gb171 hg w2 hbox hb; have n0_ := Aside0.mk (below_step (be_ HB) hb); have n1_ := Aside0.mk (hbox); have n2_ := gw_ HB hg; have n3_ := gw_ HB hg; clear HB; have HB := n0_; have BK171 := n1_; have GW171 := n2_; have GE171 := n3_; clear n0_ n1_ n2_ n3_; clear hb hbox hg) | ((with_reducible refine gate_dst (N := 2) rfl ?_); refine box_event ?hg (N := 2) ?hd (cs := #[.int .i64 0, .int .i64 0]) (t := 68) ?hr ?_; (case hd => rfl); (case hg => rfl); (case hr => first | (go_simp; done) | (go_simp; rfl)); intro gb172 hg w3 hbox hb; have n0_ := bb_ BK171 hb; have n1_ := Aside0.mk (below_step (bf_ HB) hb); have n2_ := Aside0.mk (hbox); have n3_ := gw_ HB hg; have n4_ := gw_ HB hg; have n5_ := nl_ BK171 hg; have n6_ := ng_ BK171 hg; clear BK171; clear HB; have BK171 := n0_; have HB := n1_; have BK172 := n2_; have GW172 := n3_; have GE172 := n4_; have NB171_172 := n5_; have NB172_171 := n6_; clear n0_ n1_ n2_ n3_ n4_ n5_ n6_; clear hb hbox hg) | ((with_reducible refine gate_dst (N := 3) rfl ?_); refine box_event ?hg (N := 3) ?hd (cs := #[.int .i64 0, .int .i64 0]) (t := 68) ?hr ?_; (case hd => rfl); (case hg => rfl); (case hr => first | (go_simp; done) | (go_simp; rfl)); intro gb173 hg w4 hbox hb; have n0_ := bb_ BK171 hb; have n1_ := bb_ BK172 hb; have n2_ := Aside0.mk (below_step (bf_ HB) hb); have n3_ := Aside0.mk (hbox); have n4_ := gw_ HB hg; have n5_ := gw_ HB hg; have n6_ := nl_ BK171 hg; have n7_ := ng_ BK171 hg; have n8_ := nl_ BK172 hg; have n9_ := ng_ BK172 hg; clear BK171; clear BK172; clear HB; have BK171 := n0_; have BK172 := n1_; have HB := n2_; have BK173 := n3_; have GW173 := n4_; have GE173 := n5_; have NB171_173 := n6_; have NB173_171 := n7_; have NB172_173 := n8_; have NB173_172 := n9_; clear n0_ n1_ n2_ n3_ n4_ n5_ n6_ n7_ n8_ n9_; clear hb hbox hg; have hnb5 := NB171_172.out; have hnc5 := NB172_171.out; have hnb6 := NB171_173.out; have hnc6 := NB173_171.out; have hcz7_0 := bc_ BK171 0 (.int .i64 a0_0) rfl; have hcz7_1 := bc_ BK171 1 (.int .i64 a0_1) rfl; have hfz7_0 := blk_frozen BK171.out 0; have hfz7_1 := blk_frozen BK171.out 1; have hnb8 := NB173_172.out; have hnc8 := NB172_173.out; have hcz9_0 := bc_ BK173 0 (.int .i64 0) rfl; have hcz9_1 := bc_ BK173 1 (.int .i64 0) rfl; have hfz9_0 := blk_frozen BK173.out 0; have hfz9_1 := blk_frozen BK173.out 1; have hcz10_0 := bc_ BK172 0 (.int .i64 0) rfl; have hcz10_1 := bc_ BK172 1 (.int .i64 0) rfl; have hfz10_0 := blk_frozen BK172.out 0; have hfz10_1 := blk_frozen BK172.out 1))
 refine bodyPost_ret (results_cell_row rfl _ _ gb172 68 #[.int .i64 a0_0, .int .i64 a0_1] (0, 0) _ rfl (by (with_reducible repeat (first | refine blk_drewN ?_ _ | refine blk_drew ?_ | refine blk_alloc ?_ _)); refine blk_put (cs := #[.int .i64 a0_0, .int .i64 0]) ?_ 1 _ rfl; (with_reducible repeat (first | refine blk_drewN ?_ _ | refine blk_drew ?_ | refine blk_alloc ?_ _)); refine blk_put (cs := #[.int .i64 0, .int .i64 0]) ?_ 0 _ rfl; (with_reducible repeat (first | refine blk_drewN ?_ _ | refine blk_drew ?_ | refine blk_alloc ?_ _)); refine blk_far ?_ NB172_173.out _; (with_reducible repeat (first | refine blk_drewN ?_ _ | refine blk_drew ?_ | refine blk_alloc ?_ _)); refine blk_far ?_ NB172_173.out _; exact bk_ BK172) Try.underlying68 rfl (by kernel_rfl)) rfl ?_
 exact ⟨by first | rfl | (simp [errW_none, errW_some] <;> rfl) | (simp [*, errW_none, errW_some] <;> rfl), bf_ HB⟩

/-! ### laws_toItemS: function 64 -/
def laws_toItemS.l0 : Nat → List (S126) → List (S68) → Int → Option ((List (S68)))
  | 0, _, _, _ => none
  | k + 1, x0, x3, x4 => if x4 < (x0.length : Int) then (if 0 ≤ x4 then ((laws_toItem.f ((rd_T126 x0 x4).f0) ((rd_T126 x0 x4).f1)).bind fun bt178 => (if x4 < (x3.length : Int) then (laws_toItemS.l0 k x0 (x3.set (x4 : Int).toNat (⟨bt178.1, bt178.2⟩ : S68)) (wrap64 (x4 + 1))) else (none))) else (none)) else (some x3)
def laws_toItemS.f (k : Nat) (l0 : List (S126)) : Option ((List (S68))) := if 0 ≤ (l0.length : Int) then (if ((l0.length : Int) : Int).toNat ≤ 17592186044416 then (laws_toItemS.l0 k l0 (List.replicate ((l0.length : Int) : Int).toNat z68) 0) else (none)) else (none)
theorem laws_toItemS.mono_l : ∀ k, (∀ y0 y1 y2, LeO (laws_toItemS.l0 k y0 y1 y2) (laws_toItemS.l0 (k + 1) y0 y1 y2))
 | 0 => fun _ _ _ r h => by simp [laws_toItemS.l0] at h
 | k + 1 => by
  have ih0 := laws_toItemS.mono_l k
  ·intro y0 y1 y2
   unfold laws_toItemS.l0
   repeat' first
   | (with_reducible exact ih0 _ _ _)
   | (with_reducible exact LeO.refl _)
   | (with_reducible exact LeO.none _)
   | (with_reducible refine LeO.ite ?_ ?_)
   | (with_reducible refine LeO.bind ?_ (fun _ => ?_))
   | exact ih0 _ _ _
   | exact LeO.none _
   | refine LeO.ite ?_ ?_
   | refine LeO.bind ?_ (fun _ => ?_)
theorem laws_toItemS.mono : ∀ a0 k, LeO (laws_toItemS.f k a0) (laws_toItemS.f (k + 1) a0) := by
 intro a0 k
 have ih0 := laws_toItemS.mono_l k
 unfold laws_toItemS.f
 repeat' first
   | (with_reducible exact ih0 _ _ _)
   | (with_reducible exact LeO.refl _)
   | (with_reducible exact LeO.none _)
   | (with_reducible refine LeO.ite ?_ ?_)
   | (with_reducible refine LeO.bind ?_ (fun _ => ?_))
   | exact ih0 _ _ _
   | exact LeO.none _
   | refine LeO.ite ?_ ?_
   | refine LeO.bind ?_ (fun _ => ?_)
set_option maxHeartbeats 8000000 in
set_option maxRecDepth 100000 in
theorem laws_toItemS.calls (k : Nat) (A0 : Option Addr) (c0 : Nat) (l0 : List (S126)) (r : List (S68)) (w : World) (hr0 : Kd.C k126 w A0 l0.length l0) (hc0 : l0.length ≤ c0) (h : laws_toItemS.f k l0 = some r) :
  Calls Try.prog 64 #[.slice A0 l0.length c0] w fun e w' => ∃ v0_ : Value, e = .returned (v0_) ∧ Kd.R k68 68 w' w.heap.size (fun _ => True) v0_ r ∧ Below w.heap.size w w' := by
 have hu126 := Try.underlying126; have hu68 := Try.underlying68
 have HR0 := Aside0.mk hr0
 have HC0 := Aside0.mk hc0
 clear hr0 hc0; have HB := Aside0.mk (Below.refl w.heap.size w)
 have H : (if 0 ≤ (l0.length : Int) then (if ((l0.length : Int) : Int).toNat ≤ 17592186044416 then (laws_toItemS.l0 k l0 (List.replicate ((l0.length : Int) : Int).toNat z68) 0) else (none)) else (none)) = some r := h
 clear h
 by_cases c2 : 0 ≤ (l0.length : Int)
 ·rw [if_pos c2] at H
  have c2b0 := eq_true c2
  have c2b1 : decide (0 ≤ (l0.length : Int)) = true := decide_eq_true c2
  clear c2
  by_cases c3 : ((l0.length : Int) : Int).toNat ≤ 17592186044416
  ·rw [if_pos c3] at H
   have c3b0 := eq_true c3
   have c3b1 : decide (((l0.length : Int) : Int).toNat ≤ 17592186044416) = true := decide_eq_true c3
   clear c3
   obtain ⟨y174, hy174⟩ : ∃ y_ : List (S68), y_ = (List.replicate ((l0.length : Int) : Int).toNat z68) := ⟨_, rfl⟩
   replace H : (laws_toItemS.l0 k l0 y174 0) = some r := by first | (rw [hy174]; with_reducible exact H) | (have H2_ := (Option.bind_some _ _).symm.trans H; rw [hy174]; with_reducible exact H2_) | (have H2_ := (Option.bind_some _ _).symm.trans H; with_reducible exact H2_) | with_reducible exact H | (rw [hy174]; exact H) | exact H
   have Ny174 := Aside0.mk hy174
   clear hy174
   have H' := Aside0.mk H
   clear H
   go_enter Try.func64, Try.ntmps64
   go_wp2_with (first | ((with_reducible refine gate_dst (N := 7) rfl ?_); refine Kd.R_make k68 _ 68 rfl (N := 7) rfl 26 _ _ rfl (l0.length : Int) rfl rfl Try.underlying26 (.agg #[(.int .i64 0), (.int .i64 0)]) 16 info68 rfl (by decide) (by omega) z68 (ok := fun _ => True) (okp := fun _ => True) (k68_mkM _ _ _ z68 ) (fun _ hk => by first | exact hk | grind) trivial (of_decide_eq_true (by first | (with_reducible assumption) | assumption)) (Nat.le_trans (Nat.mul_le_mul_right _ (of_decide_eq_true (by first | (with_reducible assumption) | assumption) : (l0.length : Int).toNat ≤ 17592186044416)) (by omega)) (Below.refl _ _) (Nat.le_refl _) ?_; intro v175 w4 ho5 hb hg_ hnew_; clear hg_ hnew_; (first | rw [← Ny174.out] at ho5 | (simp only [Int.reduceToNat] at ho5; rw [← Ny174.out] at ho5)); have n0_ := Aside0.mk (Kd.R_lower ho5 (below_size (be_ HB))); have n1_ := Aside0.mk (below_step (be_ HB) hb); clear HB; have HO176 := n0_; have HB := n1_; clear n0_ n1_; clear hb ho5))
   go_loopg [4] k (fun kq v4 w' => ∃ (x3_1 : List (S68)) (x4_1 : Int), v4 = .int .i64 x4_1 ∧ Aside0 (laws_toItemS.l0 kq l0 x3_1 x4_1 = some r) ∧ Aside0 (kq ≤ k) ∧ Aside0 (Kd.R k68 68 w' w.heap.size (fun _ => True) v175 x3_1) ∧ Aside0 (Below w.heap.size w w'))
   case atStart => exact ⟨(y174), (0), (by first | rfl | (simp; done) | (simp [*]; done)), H', ⟨Nat.le_refl _⟩, ⟨kr_ HO176⟩, ⟨be_ HB⟩⟩
   case round =>
    clear H'
    (try clear c2); (try clear c2b0); (try clear c2b1); (try clear p2); (try clear c3); (try clear c3b0); (try clear c3b1)
    obtain ⟨x3_1, x4_1, rfl, HA, HK1, HO_3, HB⟩ := hrel
    cases gk with
    | zero => exact absurd HA.out (by simp [laws_toItemS.l0])
    | succ k1 =>
     have H := HA.out
     clear HA
     simp only [laws_toItemS.l0] at H
     by_cases c6 : x4_1 < (l0.length : Int)
     ·rw [if_pos c6] at H
      have c6b0 : decide (x4_1 < (l0.length : Int)) = true := decide_eq_true c6
      clear c6
      by_cases c7 : 0 ≤ x4_1
      ·rw [if_pos c7] at H
       have c7b0 : decide (0 ≤ x4_1) = true := decide_eq_true c7
       clear c7
       replace H := Option.bind_eq_some_iff.mp H
       obtain ⟨⟨t178, t179⟩, A80, H⟩ := H
       replace H : (if x4_1 < (x3_1.length : Int) then (laws_toItemS.l0 k1 l0 (x3_1.set (x4_1 : Int).toNat (⟨t178, t179⟩ : S68)) (wrap64 (x4_1 + 1))) else (none)) = some r := H
       have A8 := Aside0.mk A80
       clear A80
       by_cases c9 : x4_1 < (x3_1.length : Int)
       ·rw [if_pos c9] at H
        have c9b0 : decide (x4_1 < (x3_1.length : Int)) = true := decide_eq_true c9
        clear c9
        obtain ⟨y180, hy180⟩ : ∃ y_ : List (S68), y_ = (x3_1.set (x4_1 : Int).toNat (⟨t178, t179⟩ : S68)) := ⟨_, rfl⟩
        replace H : (laws_toItemS.l0 k1 l0 y180 (wrap64 (x4_1 + 1))) = some r := by first | (rw [hy180]; with_reducible exact H) | (have H2_ := (Option.bind_some _ _).symm.trans H; rw [hy180]; with_reducible exact H2_) | (have H2_ := (Option.bind_some _ _).symm.trans H; with_reducible exact H2_) | with_reducible exact H | (rw [hy180]; exact H) | exact H
        have Ny180 := Aside0.mk hy180
        clear hy180
        have H' := Aside0.mk H
        clear H
        have p177 : 0 ≤ (x4_1 : Int) := of_decide_eq_true (by first | (with_reducible assumption) | assumption)
        have q177 : x4_1 < (l0.length : Int) := of_decide_eq_true (by first | (with_reducible assumption) | assumption)
        obtain ⟨ad177, e177, hx177_0, hx177_1⟩ := at_T126 HR0.out x4_1 p177 q177
        cases e177
        replace hx177_0 := (HB.out.cell (World.block_lt_of_cell? w _ hx177_0)).trans hx177_0
        replace hx177_1 := (HB.out.cell (World.block_lt_of_cell? w _ hx177_1)).trans hx177_1
        replace p177 := eq_true p177
        replace q177 := eq_true q177
        go_wp2_with (first | ((with_reducible refine gate_callee (f := 113) rfl ?_); refine goesL_ (some 20) rfl rfl Try.func113 (by kernel_rfl) rfl #[.agg #[.int .i64 ((rd_T126 l0 x4_1).f0), .int .i64 ((rd_T126 l0 x4_1).f1)]] rfl mt_ ?_; (with_reducible refine (laws_toItem.calls ((rd_T126 l0 x4_1).f0) ((rd_T126 l0 x4_1).f1) t178 t179 _ A8.out).mono ?_); rintro e w11 ⟨rfl, hb⟩; refine ⟨_, rfl, ?_⟩; have n0_ := Aside0.mk (Kd.R_below (kr_ HO_3) hb); have n1_ := Aside0.mk (below_step (be_ HB) hb); clear HO_3; clear HB; have HO_3 := n0_; have HB := n1_; clear n0_ n1_; (try clear hb); (try clear hb2); (try clear hk); (try clear hi); have p10 : 0 ≤ (x4_1 : Int) := of_decide_eq_true (by first | (with_reducible assumption) | assumption); have q10 : (x4_1 : Int) < ((x3_1.length : Int) : Int) := of_decide_eq_true (by first | (with_reducible assumption) | assumption); obtain ⟨go10, co10, eo10, gb10, gl10, cl10, HG10⟩ := Kd.R_form HO_3.out (by omega); (first | cases eo10 | (injection eo10 with ea_ en_ ec_; (first | subst ea_ | (injection ea_ with ea_; subst ea_)); subst ec_; clear en_)); have GB10 := Aside0.mk gb10; have GG10 := Aside0.mk HG10; clear gb10 gl10 HG10; obtain ⟨ce10, hcl10, hM10, hcc10, hfr10⟩ := Kd.R_elem HO_3.out z68 (x4_1 : Int) p10 q10; obtain rfl := k68_openM hM10; have hx10_0 : w11.cell? ⟨go10, (x4_1 : Int).toNat * 2, none⟩ = some (.int .i64 ((rd_T68 x3_1 x4_1).f0)) := hcc10 0 _ rfl; have hx10_1 : w11.cell? ⟨go10, (x4_1 : Int).toNat * 2 + 1, none⟩ = some (.int .i64 ((rd_T68 x3_1 x4_1).f1)) := hcc10 1 _ rfl; have hf10_0 : w11.frozen? ⟨go10, (x4_1 : Int).toNat * 2, none⟩ = false := hfr10 0; have hf10_1 : w11.frozen? ⟨go10, (x4_1 : Int).toNat * 2 + 1, none⟩ = false := hfr10 1; clear hcl10 hcc10 hfr10 hM10; replace p10 := eq_true p10; replace q10 := eq_true q10; have HX12 := Aside0.mk (show Kd.R k68 68 w11 w.heap.size (fun _ => True) (.slice (some ⟨go10, 0, none⟩) x3_1.length co10) x3_1 from (kr_ HO_3)); obtain ⟨ce12, hcl12, hM12, hcc12, hfr12⟩ := Kd.R_elem HX12.out z68 (x4_1 : Int) (of_decide_eq_true (by first | (with_reducible assumption) | assumption)) (by have h_ : (x4_1 : Int) < ((x3_1.length : Int) : Int) := of_decide_eq_true (by first | (with_reducible assumption) | assumption); first | exact h_ | (have e_ := (Kd.R_reads' HO_3.out).1; omega) | simpa using h_); obtain rfl := k68_openM hM12; have HP12 := Kd.R_seg HX12.out (x4_1 : Int) (of_decide_eq_true (by first | (with_reducible assumption) | assumption)) (by have h_ : (x4_1 : Int) < ((x3_1.length : Int) : Int) := of_decide_eq_true (by first | (with_reducible assumption) | assumption); first | exact h_ | (have e_ := (Kd.R_reads' HO_3.out).1; omega) | simpa using h_) (seg := [.int .i64 t178, .int .i64 t179]) (j := 0) hcl12 hcc12 (show 2 ≤ 2 from by decide) (x' := (⟨t178, t179⟩ : S68)) (k68_mkM _ _ _ (⟨t178, t179⟩ : S68) ) (fun _ hk => by first | exact hk | grind); have hx12_0 := hcc12 0 _ rfl; (try simp only [show (k68).sz = 2 from rfl, Nat.mul_one, Nat.add_zero] at hx12_0); have hf12_0 := hfr12 0; (try simp only [show (k68).sz = 2 from rfl, Nat.mul_one, Nat.add_zero] at hf12_0); have hx12_1 := hcc12 1 _ rfl; (try simp only [show (k68).sz = 2 from rfl, Nat.mul_one, Nat.add_zero] at hx12_1); have hf12_1 := hfr12 1; (try simp only [show (k68).sz = 2 from rfl, Nat.mul_one, Nat.add_zero] at hf12_1); clear hcl12 hcc12 hfr12 hM12) | ((with_reducible refine gate_store (t := 68) (p := 21) rfl ?_); refine store_event (t := 68) (p := 21) (v := ?vo_w13) (w1 := ((w11.setCell ⟨go10, (x4_1 : Int).toNat * 2, none⟩ (.int .i64 t178)).setCell ⟨go10, (x4_1 : Int).toNat * 2 + 1, none⟩ (.int .i64 t179))) ?hg ?ho ?hn ?hr ?_; (case ho => rfl); (case hg => rfl); (case hn => rfl); (case hr => first | (go_simp; done) | (go_simp; rfl)); intro w13 hw; have hg : w11.grownBy w13 (some go10) := (by rw [hw]; exact HP12.2); have hp_ : Kd.R k68 68 w13 w.heap.size (fun _ => True) (.slice (some ⟨go10, 0, none⟩) x3_1.length co10) y180 := (by rw [hw, Ny180.out]; exact HP12.1); clear HP12; have n0_ := Aside0.mk (hp_); have n1_ := Aside0.mk ((by rw [hw]; exact below_set (below_set (HB.out) GB10.out) GB10.out : Below w.heap.size w w13)); clear HO_3; clear HB; have HO_3 := n0_; have HB := n1_; clear n0_ n1_; clear hg hw hp_))
        go_roundg k1
        case measure => have := HK1.out; omega
        case rel => exact ⟨(y180), (wrap64 (x4_1 + 1)), (by first | rfl | (simp; done) | (simp [*]; done)), H', ⟨by have := HK1.out; omega⟩, ⟨kr_ HO_3⟩, ⟨be_ HB⟩⟩
       ·rw [if_neg c9] at H
        exact absurd H (by simp)
      ·rw [if_neg c7] at H
       exact absurd H (by simp)
     ·rw [if_neg c6] at H
      have c6b0 : decide (x4_1 < (l0.length : Int)) = false := decide_eq_false c6
      clear c6
      obtain rfl := Option.some.inj H
      go_wp2
      go_ret
      exact ⟨_, by first | rfl | (simp [errW_none, errW_some] <;> rfl) | (simp [*, errW_none, errW_some] <;> rfl), by (with_reducible repeat (first | apply Kd.R_alloc | apply Kd.R_drewN | apply Kd.R_drew)); exact HO_3.out, be_ HB⟩
  ·rw [if_neg c3] at H
   exact absurd H (by simp)
 ·rw [if_neg c2] at H
  exact absurd H (by simp)

/-! ### laws_toHeap: function 17 -/
def laws_toHeap.f (k : Nat) (l0_0 : List (S126)) : Option ((List (S68))) := (laws_toItemS.f k l0_0).bind fun t184 => (some t184)
theorem laws_toHeap.mono : ∀ a0 k, LeO (laws_toHeap.f k a0) (laws_toHeap.f (k + 1) a0) := by
 intro a0 k
 unfold laws_toHeap.f
 repeat' first
   | (with_reducible exact laws_toItemS.mono _ _)
   | (with_reducible exact LeO.refl _)
   | (with_reducible exact LeO.none _)
   | (with_reducible refine LeO.ite ?_ ?_)
   | (with_reducible refine LeO.bind ?_ (fun _ => ?_))
   | exact laws_toItemS.mono _ _
   | exact LeO.none _
   | refine LeO.ite ?_ ?_
   | refine LeO.bind ?_ (fun _ => ?_)
set_option maxHeartbeats 8000000 in
set_option maxRecDepth 100000 in
theorem laws_toHeap.calls (k : Nat) (A0_0 : Option Addr) (c0_0 : Nat) (l0_0 : List (S126)) (r : List (S68)) (w : World) (hr0_0 : Kd.C k126 w A0_0 l0_0.length l0_0) (hc0_0 : l0_0.length ≤ c0_0) (h : laws_toHeap.f k l0_0 = some r) :
  Calls Try.prog 17 #[.agg #[.slice A0_0 l0_0.length c0_0]] w fun e w' => ∃ v0_ : Value, e = .returned (.agg #[v0_]) ∧ Kd.R k68 68 w' w.heap.size (fun _ => True) v0_ r ∧ Below w.heap.size w w' := by
 have hu24 := Try.underlying24; have hu29 := Try.underlying29
 have HR0_0 := Aside0.mk hr0_0
 have HC0_0 := Aside0.mk hc0_0
 clear hr0_0 hc0_0; have HB := Aside0.mk (Below.refl w.heap.size w)
 have H : ((laws_toItemS.f k l0_0).bind fun t184 => (some t184)) = some r := h
 clear h
 replace H := Option.bind_eq_some_iff.mp H
 obtain ⟨t184, A20, H⟩ := H
 replace H : (some t184) = some r := H
 have A2 := Aside0.mk A20
 clear A20
 obtain rfl := Option.some.inj H
 go_enter Try.func17, Try.ntmps17
 go_wp2_with (first | ((with_reducible refine gate_dst (N := 1) rfl ?_); refine box_event ?hg (N := 1) ?hd (cs := #[.slice A0_0 l0_0.length c0_0]) (t := 24) ?hr ?_; (case hd => rfl); (case hg => rfl); (case hr => first | (go_simp; done) | (go_simp; rfl)); intro gb181 hg w3 hbox hb; have n0_ := Aside0.mk (below_step (be_ HB) hb); have n1_ := Aside0.mk (hbox); have n2_ := gw_ HB hg; have n3_ := gw_ HB hg; clear HB; have HB := n0_; have BK181 := n1_; have GW181 := n2_; have GE181 := n3_; clear n0_ n1_ n2_ n3_; clear hb hbox hg) | ((with_reducible refine gate_dst (N := 2) rfl ?_); refine box_event ?hg (N := 2) ?hd (cs := #[.slice none 0 0]) (t := 29) ?hr ?_; (case hd => rfl); (case hg => rfl); (case hr => first | (go_simp; done) | (go_simp; rfl)); intro gb182 hg w4 hbox hb; have n0_ := bb_ BK181 hb; have n1_ := Aside0.mk (below_step (bf_ HB) hb); have n2_ := Aside0.mk (hbox); have n3_ := gw_ HB hg; have n4_ := gw_ HB hg; have n5_ := nl_ BK181 hg; have n6_ := ng_ BK181 hg; clear BK181; clear HB; have BK181 := n0_; have HB := n1_; have BK182 := n2_; have GW182 := n3_; have GE182 := n4_; have NB181_182 := n5_; have NB182_181 := n6_; clear n0_ n1_ n2_ n3_ n4_ n5_ n6_; clear hb hbox hg) | ((with_reducible refine gate_dst (N := 3) rfl ?_); refine box_event ?hg (N := 3) ?hd (cs := #[.slice none 0 0]) (t := 29) ?hr ?_; (case hd => rfl); (case hg => rfl); (case hr => first | (go_simp; done) | (go_simp; rfl)); intro gb183 hg w5 hbox hb; have n0_ := bb_ BK181 hb; have n1_ := bb_ BK182 hb; have n2_ := Aside0.mk (below_step (bf_ HB) hb); have n3_ := Aside0.mk (hbox); have n4_ := gw_ HB hg; have n5_ := gw_ HB hg; have n6_ := nl_ BK181 hg; have n7_ := ng_ BK181 hg; have n8_ := nl_ BK182 hg; have n9_ := ng_ BK182 hg; clear BK181; clear BK182; clear HB; have BK181 := n0_; have BK182 := n1_; have HB := n2_; have BK183 := n3_; have GW183 := n4_; have GE183 := n5_; have NB181_183 := n6_; have NB183_181 := n7_; have NB182_183 := n8_; have NB183_182 := n9_; clear n0_ n1_ n2_ n3_ n4_ n5_ n6_ n7_ n8_ n9_; clear hb hbox hg; have hnb6 := NB181_182.out; have hnc6 := NB182_181.out; have hnb7 := NB181_183.out; have hnc7 := NB183_181.out; have hcz8_0 := bc_ BK181 0 (.slice A0_0 l0_0.length c0_0) rfl; have hfz8_0 := blk_frozen BK181.out 0) | ((with_reducible refine gate_callee (f := 64) rfl ?_); refine goesL_ (some 6) rfl rfl Try.func64 (by kernel_rfl) rfl #[.slice A0_0 l0_0.length c0_0] rfl mt_ ?_; (with_reducible refine (laws_toItemS.calls k _ _ l0_0 t184 _ ?side1 ?side2 A2.out).mono ?_); (case side1 => repeat (first | exact (Kd.C_below HR0_0.out HB.out) | (with_reducible refine Kd.C_alloc ?_ _) | (with_reducible refine Kd.C_drewN ?_ _) | (with_reducible refine Kd.C_drew ?_))); (case side2 => exact HC0_0.out); rintro e w9 ⟨v185, rfl, ho0, hb⟩; refine ⟨_, rfl, ?_⟩; have n0_ := Aside0.mk (Kd.R_lower ho0 (below_size (bf_ HB))); have n1_ := bb_ BK181 hb; have n2_ := bb_ BK182 hb; have n3_ := bb_ BK183 hb; have n4_ := Aside0.mk (below_step (bf_ HB) hb); clear BK181; clear BK182; clear BK183; clear HB; have HO186 := n0_; have BK181 := n1_; have BK182 := n2_; have BK183 := n3_; have HB := n4_; clear n0_ n1_ n2_ n3_ n4_; (try clear hb); (try clear hb2); (try clear hk); (try clear hi); (try clear ho0); obtain ⟨Ao10, co10, eo10⟩ := Kd.R_slice HO186.out; subst eo10; have hnb11 := NB183_182.out; have hnc11 := NB182_183.out; have hcz12_0 := bc_ BK183 0 (.slice none 0 0) rfl; have hfz12_0 := blk_frozen BK183.out 0; have hcz13_0 := bc_ BK182 0 (.slice none 0 0) rfl; have hfz13_0 := blk_frozen BK182.out 0))
 refine bodyPost_ret (results_cell_row rfl _ _ gb182 29 #[.slice Ao10 t184.length co10] (0, 0) _ rfl (by (with_reducible repeat (first | refine blk_drewN ?_ _ | refine blk_drew ?_ | refine blk_alloc ?_ _)); refine blk_put (cs := #[.slice none 0 0]) ?_ 0 _ rfl; (with_reducible repeat (first | refine blk_drewN ?_ _ | refine blk_drew ?_ | refine blk_alloc ?_ _)); refine blk_far ?_ NB182_183.out _; exact bk_ BK182) Try.underlying29 rfl (by kernel_rfl)) rfl ?_
 exact ⟨_, by first | rfl | (simp [errW_none, errW_some] <;> rfl) | (simp [*, errW_none, errW_some] <;> rfl), by (with_reducible repeat (first | apply Kd.R_alloc | apply Kd.R_drewN | apply Kd.R_drew)); exact Kd.R_mono (Kd.R_far (p := ⟨gb182, 0, none⟩) (Kd.R_far (p := ⟨gb183, 0, none⟩) (Kd.R_types (Kd.R_types HO186.out BK183.out (by decide)) BK182.out (by decide)) (fun _ hk => by first | exact hk.1.2 | grind) (.slice Ao10 t184.length co10)) (fun _ hk => by first | exact hk.2 | grind) (.slice Ao10 t184.length co10)) (fun _ hk => by first | exact trivial | grind), bf_ HB⟩

end Go.Proofs.Ytnklakficjpmoaa.PFnExactHeapOrder
