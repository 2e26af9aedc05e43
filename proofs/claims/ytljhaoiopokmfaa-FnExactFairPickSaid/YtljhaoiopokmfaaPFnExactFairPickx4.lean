-- printed by a program of this session (wip/printx) out of the translation; Lean checks it
import Derived.Test.YtljhaoiopokmfaaPFnExactFairPickx0
import Derived.Test.YtljhaoiopokmfaaPFnExactFairPickx1
import Derived.Test.YtljhaoiopokmfaaPFnExactFairPickx3
namespace Go.Proofs.Ytljhaoiopokmfaa.PFnExactFairPick
open Go.RowKit Go.Proofs.YtljhaoiopokmfaaW.PrintWords Go.Proofs.YtljhaoiopokmfaaW.PrintLast Go.Proofs.YtljhaoiopokmfaaW.PrintMore
attribute [local go_sem] max2_int min2_int max_two min_two max_three min_three max_four min_four   -- for this text's walks alone
set_option linter.unusedVariables false
set_option linter.unusedSimpArgs false

/-! ### spec_FairPick: function 20 -/
def spec_FairPick.l0 : Nat → Int → Int → Int → Int → Int → Int → List (S38) → Option (Int)
  | 0, _, _, _, _, _, _, _ => none
  | k + 1, x3, x4, x168000, x168001, x168002, x168003, x168004 => if x4 < (x168004.length : Int) then (if 0 ≤ x4 then (if (rd_T38 x168004 x4).f2 = true then (if x3 < 0 then (spec_FairPick.l0 k x4 (wrap64 (x4 + 1)) x168000 x168001 x168002 x168003 x168004) else ((spec_VecTop.f ((rd_T38 x168004 x4).f3.f0) ((rd_T38 x168004 x4).f3.f1) ((rd_T38 x168004 x4).f3.f2)).bind fun t172 => (if 0 ≤ x3 then (if x3 < (x168004.length : Int) then ((spec_VecTop.f ((rd_T38 x168004 x3).f3.f0) ((rd_T38 x168004 x3).f3.f1) ((rd_T38 x168004 x3).f3.f2)).bind fun t174 => (if t172 < t174 then (spec_FairPick.l0 k x4 (wrap64 (x4 + 1)) x168000 x168001 x168002 x168003 x168004) else (spec_FairPick.l0 k x3 (wrap64 (x4 + 1)) x168000 x168001 x168002 x168003 x168004))) else (none)) else (none)))) else (spec_FairPick.l0 k x3 (wrap64 (x4 + 1)) x168000 x168001 x168002 x168003 x168004)) else (none)) else (if x3 < 0 then (some (-1)) else (if 0 ≤ x3 then (if x3 < (x168004.length : Int) then (some ((rd_T38 x168004 x3).f0)) else (none)) else (none)))
def spec_FairPick.f (k : Nat) (a0_0 : Int) (a0_1 : Int) (a0_2 : Int) (a0_3 : Int) (l0_4 : List (S38)) : Option (Int) := (spec_FairOk.f k a0_0 a0_1 a0_2 a0_3 l0_4).bind fun t168 => (if t168 = true then (spec_FairPick.l0 k (-1) 0 a0_0 a0_1 a0_2 a0_3 l0_4) else (some (-1)))
theorem spec_FairPick.mono_l : ∀ k, (∀ y0 y1 y2 y3 y4 y5 y6, LeO (spec_FairPick.l0 k y0 y1 y2 y3 y4 y5 y6) (spec_FairPick.l0 (k + 1) y0 y1 y2 y3 y4 y5 y6))
 | 0 => fun _ _ _ _ _ _ _ r h => by simp [spec_FairPick.l0] at h
 | k + 1 => by
  have ih0 := spec_FairPick.mono_l k
  ·intro y0 y1 y2 y3 y4 y5 y6
   unfold spec_FairPick.l0
   repeat' first
   | (with_reducible exact ih0 _ _ _ _ _ _ _)
   | (with_reducible exact spec_FairOk.mono _ _ _ _ _ _)
   | (with_reducible exact LeO.refl _)
   | (with_reducible exact LeO.none _)
   | (with_reducible refine LeO.ite ?_ ?_)
   | (with_reducible refine LeO.bind ?_ (fun _ => ?_))
   | exact ih0 _ _ _ _ _ _ _
   | exact spec_FairOk.mono _ _ _ _ _ _
   | exact LeO.none _
   | refine LeO.ite ?_ ?_
   | refine LeO.bind ?_ (fun _ => ?_)
theorem spec_FairPick.mono : ∀ a0 a1 a2 a3 a4 k, LeO (spec_FairPick.f k a0 a1 a2 a3 a4) (spec_FairPick.f (k + 1) a0 a1 a2 a3 a4) := by
 intro a0 a1 a2 a3 a4 k
 have ih0 := spec_FairPick.mono_l k
 unfold spec_FairPick.f
 repeat' first
   | (with_reducible exact ih0 _ _ _ _ _ _ _)
   | (with_reducible exact spec_FairOk.mono _ _ _ _ _ _)
   | (with_reducible exact LeO.refl _)
   | (with_reducible exact LeO.none _)
   | (with_reducible refine LeO.ite ?_ ?_)
   | (with_reducible refine LeO.bind ?_ (fun _ => ?_))
   | exact ih0 _ _ _ _ _ _ _
   | exact spec_FairOk.mono _ _ _ _ _ _
   | exact LeO.none _
   | refine LeO.ite ?_ ?_
   | refine LeO.bind ?_ (fun _ => ?_)
def spec_FairPick.T7 : Bool × List (List Nat × List Nat) := (true, [([], []), ([0], [0]), ([], []), ([1, 2], [1, 2]), ([3], [3]), ([4], [4]), ([5], [5]), ([6], [6]), ([7, 6], [6, 7]), ([8, 6, 6], [6, 8]), ([9], [9]), ([10, 9], [9, 10]), ([9], [9]), ([11, 12, 9], [9, 11, 12]), ([13, 9], [9, 13]), ([14, 9], [9, 14]), ([15, 9, 9], [9, 15]), ([9], [9]), ([17, 9], [9, 17]), ([9], [9]), ([18, 19, 9], [9, 18, 19]), ([20, 9], [9, 20]), ([21, 9], [9, 21]), ([22, 16, 9], [9, 22]), ([16, 23, 9], [9, 16, 23]), ([9, 24, 6], [6, 9, 24]), ([6, 25], [6, 25])])
def spec_FairPick.B7 : List Nat := [0, 1, 0, 7, 15, 31, 63, 127, 255, 511, 1023, 2047, 1023, 8191, 16383, 32767, 65535, 1023, 132095, 1023, 918527, 1967103, 4064255, 8388607, 16777215, 33554431, 67108863]
theorem spec_FairPick.tab7 : rtab .any (opsOf Try.f20 7) = spec_FairPick.T7 := by kernel_rfl
theorem spec_FairPick.bits7 : waitsOk spec_FairPick.T7.2 spec_FairPick.B7 = true := by kernel_rfl
set_option maxHeartbeats 8000000 in
set_option maxRecDepth 100000 in
theorem spec_FairPick.calls (k : Nat) (a0_0 : Int) (a0_1 : Int) (a0_2 : Int) (a0_3 : Int) (A0_4 : Option Addr) (c0_4 : Nat) (l0_4 : List (S38)) (r : Int) (w : World) (hr0_4 : Kd.C k38 w A0_4 l0_4.length l0_4) (hc0_4 : l0_4.length ≤ c0_4) (h : spec_FairPick.f k a0_0 a0_1 a0_2 a0_3 l0_4 = some r) :
  Calls Try.prog 20 #[.agg #[.int .i64 a0_0, .int .i64 a0_1, .int .i64 a0_2, .int .i64 a0_3, .slice A0_4 l0_4.length c0_4]] w fun e w' => e = .returned (.int .i64 r) ∧ Below w.heap.size w w' := by
 have hu32 := Try.underlying32
 have hu29 := Try.underlying29
 have HR0_4 := Aside0.mk hr0_4
 have HC0_4 := Aside0.mk hc0_4
 clear hr0_4 hc0_4
 have HB := Aside0.mk (Below.refl w.heap.size w)
 have H : ((spec_FairOk.f k a0_0 a0_1 a0_2 a0_3 l0_4).bind fun t168 => (if t168 = true then (spec_FairPick.l0 k (-1) 0 a0_0 a0_1 a0_2 a0_3 l0_4) else (some (-1)))) = some r := h
 clear h
 replace H := Option.bind_eq_some_iff.mp H
 obtain ⟨t168, A20, H⟩ := H
 replace H : (if t168 = true then (spec_FairPick.l0 k (-1) 0 a0_0 a0_1 a0_2 a0_3 l0_4) else (some (-1))) = some r := H
 have A2 := Aside0.mk A20
 clear A20
 by_cases c3 : t168 = true
 ·subst c3
  have H1 : (spec_FairPick.l0 k (-1) 0 a0_0 a0_1 a0_2 a0_3 l0_4) = some r := by rw [if_pos rfl] at H; exact H
  clear H
  have H := H1
  clear H1
  have H' := Aside0.mk H
  clear H
  go_enter Try.func20, Try.ntmps20
  go_wp2_with (first | ((with_reducible refine gate_dst (N := 1) rfl ?_); refine box_event ?hg (N := 1) ?hd (cs := #[.int .i64 a0_0, .int .i64 a0_1, .int .i64 a0_2, .int .i64 a0_3, .slice A0_4 l0_4.length c0_4]) (t := 32) ?hr ?_; (case hd => rfl); (case hg => rfl); (case hr => first | (go_simp; done) | (go_simp; rfl)); intro gb167 hg w4 hbox hb; have n0_ := Aside0.mk (below_step (by repeat (first | (with_reducible first | exact HB.out | apply below_alloc | apply pw_below_drewN | apply below_drew1) | exact HB.out)) hb); have n1_ := Aside0.mk (hbox); have n2_ := Aside0.mk ((by rw [hg]; exact (below_size (by repeat (first | (with_reducible first | exact HB.out | apply below_alloc | apply pw_below_drewN | apply below_drew1) | exact HB.out))) : w.heap.size ≤ gb167)); have n3_ := Aside0.mk ((by rw [hg]; exact (below_size (by repeat (first | (with_reducible first | exact HB.out | apply below_alloc | apply pw_below_drewN | apply below_drew1) | exact HB.out))) : w.heap.size ≤ gb167)); clear HB; have HB := n0_; have BK167 := n1_; have GW167 := n2_; have GE167 := n3_; clear n0_ n1_ n2_ n3_; clear hb hbox hg; have hcz5_0 : w4.cell? ⟨gb167, 0, none⟩ = some (.int .i64 a0_0) := (blk_cell BK167.out 0).trans rfl; have hcz5_1 : w4.cell? ⟨gb167, 1, none⟩ = some (.int .i64 a0_1) := (blk_cell BK167.out 1).trans rfl; have hcz5_2 : w4.cell? ⟨gb167, 2, none⟩ = some (.int .i64 a0_2) := (blk_cell BK167.out 2).trans rfl; have hcz5_3 : w4.cell? ⟨gb167, 3, none⟩ = some (.int .i64 a0_3) := (blk_cell BK167.out 3).trans rfl; have hcz5_4 : w4.cell? ⟨gb167, 4, none⟩ = some (.slice A0_4 l0_4.length c0_4) := (blk_cell BK167.out 4).trans rfl; have hfz5_0 := blk_frozen BK167.out 0; have hfz5_1 := blk_frozen BK167.out 1; have hfz5_2 := blk_frozen BK167.out 2; have hfz5_3 := blk_frozen BK167.out 3; have hfz5_4 := blk_frozen BK167.out 4) | ((with_reducible refine gate_callee (f := 16) rfl ?_); refine goesL_ (some 6) rfl rfl Try.func16 (by kernel_rfl) rfl #[.agg #[.int .i64 a0_0, .int .i64 a0_1, .int .i64 a0_2, .int .i64 a0_3, .slice A0_4 l0_4.length c0_4]] rfl (by (try simp only [List.map_toArray, List.map_cons, List.map_nil]); first | done | rfl | (simp only [List.length_drop, List.length_take]; rfl)) ?_; (with_reducible refine (spec_FairOk.calls k a0_0 a0_1 a0_2 a0_3 _ _ l0_4 true _ ?side1 ?side2 A2.out).mono ?_); (case side1 => repeat (first | exact (Kd.C_below HR0_4.out HB.out) | (with_reducible refine Kd.C_alloc ?_ _) | (with_reducible refine Kd.C_drewN ?_ _) | (with_reducible refine Kd.C_drew ?_))); (case side2 => exact HC0_4.out); rintro e w6 ⟨rfl, hb⟩; refine ⟨_, rfl, ?_⟩; have n0_ := Aside0.mk (blk_below (g := gb167) (o := .cells #[.int .i64 a0_0, .int .i64 a0_1, .int .i64 a0_2, .int .i64 a0_3, .slice A0_4 l0_4.length c0_4] 32 (0, 0)) (by (with_reducible repeat (first | refine blk_drewN ?_ _ | refine blk_drew ?_ | refine blk_alloc ?_ _)); exact BK167.out) hb); have n1_ := Aside0.mk (below_step (by repeat (first | (with_reducible first | exact HB.out | apply below_alloc | apply pw_below_drewN | apply below_drew1 | refine below_set ?_ GE167.out) | exact HB.out)) hb); clear BK167; clear HB; have BK167 := n0_; have HB := n1_; clear n0_ n1_; (try clear hb); (try clear hb2); (try clear hk); (try clear hi)))
  go_loopg [3, 4] k (fun kq v3 v4 w' => ∃ (x3_1 : Int) (x4_1 : Int), v3 = .int .i64 x3_1 ∧ v4 = .int .i64 x4_1 ∧ Aside0 (spec_FairPick.l0 kq x3_1 x4_1 a0_0 a0_1 a0_2 a0_3 l0_4 = some r) ∧ Aside0 (kq ≤ k) ∧ Aside0 (w'.heap[gb167]? = some (.cells #[.int .i64 a0_0, .int .i64 a0_1, .int .i64 a0_2, .int .i64 a0_3, (.slice A0_4 l0_4.length c0_4)] 32 (0, 0))) ∧ Aside0 (Below w.heap.size w w'))
  case atStart => exact ⟨((-1)), (0), (by first | rfl | (simp; done) | (simp [*]; done)), (by first | rfl | (simp; done) | (simp [*]; done)), H', ⟨Nat.le_refl _⟩, ⟨by (with_reducible repeat (first | refine blk_drewN ?_ _ | refine blk_drew ?_ | refine blk_alloc ?_ _)); exact BK167.out⟩, ⟨by repeat (first | (with_reducible first | exact HB.out | apply below_alloc | apply pw_below_drewN | apply below_drew1 | refine below_set ?_ GE167.out) | exact HB.out)⟩⟩
  case round =>
   clear H'
   try clear c1
   try clear c2
   try clear p2
   try clear c3
   try clear hcz5_0
   try clear hcz5_1
   try clear hcz5_2
   try clear hcz5_3
   try clear hcz5_4
   try clear hfz5_0
   try clear hfz5_1
   try clear hfz5_2
   try clear hfz5_3
   try clear hfz5_4
   obtain ⟨x3_1, x4_1, rfl, rfl, HA, HK1, BK167, HB⟩ := hrel
   cases gk with
   | zero => exact absurd HA.out (by simp [spec_FairPick.l0])
   | succ k1 =>
    have H := HA.out
    clear HA
    simp only [spec_FairPick.l0] at H
    by_cases c7 : x4_1 < (l0_4.length : Int)
    ·rw [if_pos c7] at H
     have c7b0 : decide (x4_1 < (l0_4.length : Int)) = true := decide_eq_true c7
     clear c7
     by_cases c8 : 0 ≤ x4_1
     ·rw [if_pos c8] at H
      have c8b0 : decide (0 ≤ x4_1) = true := decide_eq_true c8
      clear c8
      obtain ⟨bq9, hbq9⟩ : ∃ b_ : Bool, b_ = ((rd_T38 l0_4 x4_1).f2) := ⟨_, rfl⟩
      replace H : (if bq9 = true then (if x3_1 < 0 then (spec_FairPick.l0 k1 x4_1 (wrap64 (x4_1 + 1)) a0_0 a0_1 a0_2 a0_3 l0_4) else ((spec_VecTop.f ((rd_T38 l0_4 x4_1).f3.f0) ((rd_T38 l0_4 x4_1).f3.f1) ((rd_T38 l0_4 x4_1).f3.f2)).bind fun t172 => (if 0 ≤ x3_1 then (if x3_1 < (l0_4.length : Int) then ((spec_VecTop.f ((rd_T38 l0_4 x3_1).f3.f0) ((rd_T38 l0_4 x3_1).f3.f1) ((rd_T38 l0_4 x3_1).f3.f2)).bind fun t174 => (if t172 < t174 then (spec_FairPick.l0 k1 x4_1 (wrap64 (x4_1 + 1)) a0_0 a0_1 a0_2 a0_3 l0_4) else (spec_FairPick.l0 k1 x3_1 (wrap64 (x4_1 + 1)) a0_0 a0_1 a0_2 a0_3 l0_4))) else (none)) else (none)))) else (spec_FairPick.l0 k1 x3_1 (wrap64 (x4_1 + 1)) a0_0 a0_1 a0_2 a0_3 l0_4)) = some r := by rw [← hbq9] at H; exact H
      have Nbq9 := Aside0.mk hbq9
      clear hbq9
      by_cases c10 : bq9 = true
      ·subst c10
       have H1 : (if x3_1 < 0 then (spec_FairPick.l0 k1 x4_1 (wrap64 (x4_1 + 1)) a0_0 a0_1 a0_2 a0_3 l0_4) else ((spec_VecTop.f ((rd_T38 l0_4 x4_1).f3.f0) ((rd_T38 l0_4 x4_1).f3.f1) ((rd_T38 l0_4 x4_1).f3.f2)).bind fun t172 => (if 0 ≤ x3_1 then (if x3_1 < (l0_4.length : Int) then ((spec_VecTop.f ((rd_T38 l0_4 x3_1).f3.f0) ((rd_T38 l0_4 x3_1).f3.f1) ((rd_T38 l0_4 x3_1).f3.f2)).bind fun t174 => (if t172 < t174 then (spec_FairPick.l0 k1 x4_1 (wrap64 (x4_1 + 1)) a0_0 a0_1 a0_2 a0_3 l0_4) else (spec_FairPick.l0 k1 x3_1 (wrap64 (x4_1 + 1)) a0_0 a0_1 a0_2 a0_3 l0_4))) else (none)) else (none)))) = some r := by rw [if_pos rfl] at H; exact H
       clear H
       have H := H1
       clear H1
       by_cases c11 : x3_1 < 0
       ·rw [if_pos c11] at H
        have c11b0 : decide (x3_1 < 0) = true := decide_eq_true c11
        clear c11
        have H' := Aside0.mk H
        clear H
        have hcz12_0 : wr.cell? ⟨gb167, 0, none⟩ = some (.int .i64 a0_0) := (blk_cell BK167.out 0).trans rfl
        have hcz12_1 : wr.cell? ⟨gb167, 1, none⟩ = some (.int .i64 a0_1) := (blk_cell BK167.out 1).trans rfl
        have hcz12_2 : wr.cell? ⟨gb167, 2, none⟩ = some (.int .i64 a0_2) := (blk_cell BK167.out 2).trans rfl
        have hcz12_3 : wr.cell? ⟨gb167, 3, none⟩ = some (.int .i64 a0_3) := (blk_cell BK167.out 3).trans rfl
        have hcz12_4 : wr.cell? ⟨gb167, 4, none⟩ = some (.slice A0_4 l0_4.length c0_4) := (blk_cell BK167.out 4).trans rfl
        have hfz12_0 := blk_frozen BK167.out 0
        have hfz12_1 := blk_frozen BK167.out 1
        have hfz12_2 := blk_frozen BK167.out 2
        have hfz12_3 := blk_frozen BK167.out 3
        have hfz12_4 := blk_frozen BK167.out 4
        try go_wp2
        have n0_ := Aside0.mk (blk_drew BK167.out)
        have n1_ := Aside0.mk (below_drew1 HB.out)
        clear BK167
        clear HB
        have BK167 := n0_
        have HB := n1_
        clear n0_ n1_
        have p170 : 0 ≤ (x4_1 : Int) := of_decide_eq_true (by first | (with_reducible assumption) | assumption)
        have q170 : x4_1 < (l0_4.length : Int) := of_decide_eq_true (by first | (with_reducible assumption) | assumption)
        obtain ⟨ad170, e170, hx170_0, hx170_1, hx170_2, hx170_3, hx170_4, hx170_5⟩ := at_T38 HR0_4.out x4_1 p170 q170
        have hw170_5 := hx170_5
        have hw170_4 := hx170_4
        have hw170_3 := hx170_3
        have hw170_2 := hx170_2
        have hw170_1 := hx170_1
        have hw170_0 := hx170_0
        (try rw [← Nbq9.out] at hx170_2)
        (try rw [← Nbq9.out] at hw170_2)
        cases e170
        replace hx170_0 := (HB.out.cell (World.block_lt_of_cell? w _ hx170_0)).trans hx170_0
        replace hx170_1 := (HB.out.cell (World.block_lt_of_cell? w _ hx170_1)).trans hx170_1
        replace hx170_2 := (HB.out.cell (World.block_lt_of_cell? w _ hx170_2)).trans hx170_2
        replace hx170_3 := (HB.out.cell (World.block_lt_of_cell? w _ hx170_3)).trans hx170_3
        replace hx170_4 := (HB.out.cell (World.block_lt_of_cell? w _ hx170_4)).trans hx170_4
        replace hx170_5 := (HB.out.cell (World.block_lt_of_cell? w _ hx170_5)).trans hx170_5
        replace p170 := eq_true p170
        replace q170 := eq_true q170
        refine start_ (n := 27) (S := fun w' => w'.cell? ⟨gb167, 0, none⟩ = some (.int .i64 a0_0) ∧ w'.cell? ⟨gb167, 1, none⟩ = some (.int .i64 a0_1) ∧ w'.cell? ⟨gb167, 2, none⟩ = some (.int .i64 a0_2) ∧ w'.cell? ⟨gb167, 3, none⟩ = some (.int .i64 a0_3) ∧ w'.cell? ⟨gb167, 4, none⟩ = some (.slice (some ad170) l0_4.length c0_4) ∧ w'.cell? (ad170.add ((x4_1).toNat * 6)) = some (.int .i64 ((rd_T38 l0_4 x4_1).f0)) ∧ w'.cell? ⟨(ad170.add ((x4_1).toNat * 6)).block, (ad170.add ((x4_1).toNat * 6)).off + 1, none⟩ = some (.int .i64 ((rd_T38 l0_4 x4_1).f1)) ∧ w'.cell? ⟨(ad170.add ((x4_1).toNat * 6)).block, (ad170.add ((x4_1).toNat * 6)).off + 2, none⟩ = some (.bool true) ∧ w'.cell? ⟨(ad170.add ((x4_1).toNat * 6)).block, (ad170.add ((x4_1).toNat * 6)).off + 3, none⟩ = some (.int .i64 ((rd_T38 l0_4 x4_1).f3.f0)) ∧ w'.cell? ⟨(ad170.add ((x4_1).toNat * 6)).block, (ad170.add ((x4_1).toNat * 6)).off + 4, none⟩ = some (.int .i64 ((rd_T38 l0_4 x4_1).f3.f1)) ∧ w'.cell? ⟨(ad170.add ((x4_1).toNat * 6)).block, (ad170.add ((x4_1).toNat * 6)).off + 5, none⟩ = some (.int .i64 ((rd_T38 l0_4 x4_1).f3.f2))) (ds := []) (bs 27 0) (by kernel_rfl) rfl rfl ⟨(blk_cell BK167.out 0).trans rfl, (blk_cell BK167.out 1).trans rfl, (blk_cell BK167.out 2).trans rfl, (blk_cell BK167.out 3).trans rfl, (blk_cell BK167.out 4).trans rfl, ((HB.out.cell (World.block_lt_of_cell? w _ hw170_0)).trans hw170_0), ((HB.out.cell (World.block_lt_of_cell? w _ hw170_1)).trans hw170_1), ((HB.out.cell (World.block_lt_of_cell? w _ hw170_2)).trans hw170_2), ((HB.out.cell (World.block_lt_of_cell? w _ hw170_3)).trans hw170_3), ((HB.out.cell (World.block_lt_of_cell? w _ hw170_4)).trans hw170_4), ((HB.out.cell (World.block_lt_of_cell? w _ hw170_5)).trans hw170_5)⟩ (fun hHeld => ?_); refine with_tabW spec_FairPick.tab7 spec_FairPick.bits7 (fun HT_ HW_ => ?_)
        generalize wr.drew = w13 at BK167 HB hx170_0 hx170_1 hx170_2 hx170_3 hx170_4 hx170_5 hHeld ⊢
        refine pure_s (i := 0) (N := some 15) (bs 27 1) (any_of HT_.out (by kernel_rfl)) (h := ?_)
        refine pure_s (i := 2) (N := some 17) #[oT,oF,oT,oF,oF,oF,oF,oF,oF,oF,oF,oF,oF,oF,oF,oF,oF,oF,oF,oF,oF,oF,oF,oF,oF,oF,oF] (any_of HT_.out (by kernel_rfl)) (h := ?_)
        refine take_ (i := 1) (N := some 16) (v := ?_) (a' := ?_) (bs 27 3) rfl rfl (take_ofW HT_.out HW_.out (by kernel_rfl)) (fun _ _ _ h => h) (Or.inl ⟨by rfl, ?_⟩) hHeld ?_ ?_
        rotate_left
        ·rintro w' ⟨s0, s1, s2, s3, s4, s5, s6, s7, s8, s9, s10⟩
         go_simp
         with_reducible rfl
        rotate_left
        ·simp only [Act.put, List.setIfInBounds_toArray, List.set_cons_zero, List.set_cons_succ, i64_w, i32_w]
         rfl
        refine pure_s (i := 3) (N := some 18) (bs 27 4) (any_of HT_.out (by kernel_rfl)) (h := ?_)
        refine pure_s (i := 4) (N := some 19) (bs 27 5) (any_of HT_.out (by kernel_rfl)) (h := ?_)
        refine take_ (i := 5) (N := some 20) (v := ?_) (a' := ?_) (bs 27 6) rfl rfl (take_ofW HT_.out HW_.out (by kernel_rfl)) (fun _ _ _ h => h) (Or.inl ⟨by rfl, ?_⟩) hHeld ?_ ?_
        rotate_left
        ·rintro w' ⟨s0, s1, s2, s3, s4, s5, s6, s7, s8, s9, s10⟩
         go_simp
         with_reducible rfl
        rotate_left
        ·simp only [Act.put, List.setIfInBounds_toArray, List.set_cons_zero, List.set_cons_succ, i64_w, i32_w]
         rfl
        refine pure_s (i := 6) (N := some 21) (bs 27 7) (any_of HT_.out (by kernel_rfl)) (h := ?_)
        refine pure_s (i := 7) (N := some 22) (bs 27 8) (any_of HT_.out (by kernel_rfl)) (h := ?_)
        refine pure_s (i := 8) (N := some 23) (bs 27 9) (any_of HT_.out (by kernel_rfl)) (h := ?_)
        refine pure_s (i := 9) (N := some 24) (bs 27 10) (any_of HT_.out (by kernel_rfl)) (h := ?_)
        refine pure_u (i := 10) (N := some 25) (bs 27 11) (any_of HT_.out (by kernel_rfl)) (h := ?_)
        refine pure_u (i := 11) (N := some 26) (bs 27 12) (any_of HT_.out (by kernel_rfl)) (h := ?_)
        refine pure_u (i := 12) (N := some 27) (bs 27 13) (any_of HT_.out (by kernel_rfl)) (h := ?_)
        refine pure_u (i := 13) (N := some 28) (bs 27 14) (any_of HT_.out (by kernel_rfl)) (h := ?_)
        refine pure_u (i := 14) (N := some 29) (bs 27 15) (any_of HT_.out (by kernel_rfl)) (h := ?_)
        refine pure_u (i := 15) (N := some 30) (bs 27 16) (any_of HT_.out (by kernel_rfl)) (h := ?_)
        refine pure_u (i := 16) (N := some 31) (bs 27 17) (any_of HT_.out (by kernel_rfl)) (h := ?_)
        refine pure_u (i := 17) (N := some 32) (bs 27 18) (any_of HT_.out (by kernel_rfl)) (h := ?_)
        refine pure_u (i := 18) (N := some 33) (bs 27 19) (any_of HT_.out (by kernel_rfl)) (h := ?_)
        refine pure_u (i := 19) (N := some 34) (bs 27 20) (any_of HT_.out (by kernel_rfl)) (h := ?_)
        refine pure_u (i := 20) (N := some 35) (bs 27 21) (any_of HT_.out (by kernel_rfl)) (h := ?_)
        refine pure_u (i := 21) (N := some 36) (bs 27 22) (any_of HT_.out (by kernel_rfl)) (h := ?_)
        refine pure_u (i := 22) (N := some 37) (bs 27 23) (any_of HT_.out (by kernel_rfl)) (h := ?_)
        refine pure_u (i := 23) (N := some 38) (bs 27 24) (any_of HT_.out (by kernel_rfl)) (h := ?_)
        refine pure_u (i := 24) (N := some 39) (bs 27 25) (any_of HT_.out (by kernel_rfl)) (h := ?_)
        refine pure_s (i := 25) (N := some 40) (bs 27 26) (any_of HT_.out (by kernel_rfl)) (h := ?_)
        refine pure_s (i := 26) (N := some 41) (bs 27 27) (any_of HT_.out (by kernel_rfl)) (h := ?_)
        refine done_ (done_of HT_.out (by kernel_rfl)) ?_
        try go_wp2
        go_roundg k1
        case measure => have := HK1.out; omega
        case rel => exact ⟨(x4_1), (wrap64 (x4_1 + 1)), (by first | rfl | (simp; done) | (simp [*]; done)), (by first | rfl | (simp; done) | (simp [*]; done)), H', ⟨by have := HK1.out; omega⟩, ⟨by (with_reducible repeat (first | refine blk_drewN ?_ _ | refine blk_drew ?_ | refine blk_alloc ?_ _)); exact BK167.out⟩, ⟨by repeat (first | (with_reducible first | exact HB.out | apply below_alloc | apply pw_below_drewN | apply below_drew1 | refine below_set ?_ GE167.out) | exact HB.out)⟩⟩
       ·rw [if_neg c11] at H
        have c11b0 : decide (x3_1 < 0) = false := decide_eq_false c11
        clear c11
        replace H := Option.bind_eq_some_iff.mp H
        obtain ⟨t172, A140, H⟩ := H
        replace H : (if 0 ≤ x3_1 then (if x3_1 < (l0_4.length : Int) then ((spec_VecTop.f ((rd_T38 l0_4 x3_1).f3.f0) ((rd_T38 l0_4 x3_1).f3.f1) ((rd_T38 l0_4 x3_1).f3.f2)).bind fun t174 => (if t172 < t174 then (spec_FairPick.l0 k1 x4_1 (wrap64 (x4_1 + 1)) a0_0 a0_1 a0_2 a0_3 l0_4) else (spec_FairPick.l0 k1 x3_1 (wrap64 (x4_1 + 1)) a0_0 a0_1 a0_2 a0_3 l0_4))) else (none)) else (none)) = some r := H
        have A14 := Aside0.mk A140
        clear A140
        by_cases c15 : 0 ≤ x3_1
        ·rw [if_pos c15] at H
         have c15b0 : decide (0 ≤ x3_1) = true := decide_eq_true c15
         clear c15
         by_cases c16 : x3_1 < (l0_4.length : Int)
         ·rw [if_pos c16] at H
          have c16b0 : decide (x3_1 < (l0_4.length : Int)) = true := decide_eq_true c16
          clear c16
          replace H := Option.bind_eq_some_iff.mp H
          obtain ⟨t174, A170, H⟩ := H
          replace H : (if t172 < t174 then (spec_FairPick.l0 k1 x4_1 (wrap64 (x4_1 + 1)) a0_0 a0_1 a0_2 a0_3 l0_4) else (spec_FairPick.l0 k1 x3_1 (wrap64 (x4_1 + 1)) a0_0 a0_1 a0_2 a0_3 l0_4)) = some r := H
          have A17 := Aside0.mk A170
          clear A170
          by_cases c18 : t172 < t174
          ·rw [if_pos c18] at H
           have c18b0 : decide (t172 < t174) = true := decide_eq_true c18
           clear c18
           have H' := Aside0.mk H
           clear H
           have hcz19_0 : wr.cell? ⟨gb167, 0, none⟩ = some (.int .i64 a0_0) := (blk_cell BK167.out 0).trans rfl
           have hcz19_1 : wr.cell? ⟨gb167, 1, none⟩ = some (.int .i64 a0_1) := (blk_cell BK167.out 1).trans rfl
           have hcz19_2 : wr.cell? ⟨gb167, 2, none⟩ = some (.int .i64 a0_2) := (blk_cell BK167.out 2).trans rfl
           have hcz19_3 : wr.cell? ⟨gb167, 3, none⟩ = some (.int .i64 a0_3) := (blk_cell BK167.out 3).trans rfl
           have hcz19_4 : wr.cell? ⟨gb167, 4, none⟩ = some (.slice A0_4 l0_4.length c0_4) := (blk_cell BK167.out 4).trans rfl
           have hfz19_0 := blk_frozen BK167.out 0
           have hfz19_1 := blk_frozen BK167.out 1
           have hfz19_2 := blk_frozen BK167.out 2
           have hfz19_3 := blk_frozen BK167.out 3
           have hfz19_4 := blk_frozen BK167.out 4
           try go_wp2
           have n0_ := Aside0.mk (blk_drew BK167.out)
           have n1_ := Aside0.mk (below_drew1 HB.out)
           clear BK167
           clear HB
           have BK167 := n0_
           have HB := n1_
           clear n0_ n1_
           have p170 : 0 ≤ (x4_1 : Int) := of_decide_eq_true (by first | (with_reducible assumption) | assumption)
           have q170 : x4_1 < (l0_4.length : Int) := of_decide_eq_true (by first | (with_reducible assumption) | assumption)
           obtain ⟨ad170, e170, hx170_0, hx170_1, hx170_2, hx170_3, hx170_4, hx170_5⟩ := at_T38 HR0_4.out x4_1 p170 q170
           have hw170_5 := hx170_5
           have hw170_4 := hx170_4
           have hw170_3 := hx170_3
           have hw170_2 := hx170_2
           have hw170_1 := hx170_1
           have hw170_0 := hx170_0
           (try rw [← Nbq9.out] at hx170_2)
           (try rw [← Nbq9.out] at hw170_2)
           cases e170
           replace hx170_0 := (HB.out.cell (World.block_lt_of_cell? w _ hx170_0)).trans hx170_0
           replace hx170_1 := (HB.out.cell (World.block_lt_of_cell? w _ hx170_1)).trans hx170_1
           replace hx170_2 := (HB.out.cell (World.block_lt_of_cell? w _ hx170_2)).trans hx170_2
           replace hx170_3 := (HB.out.cell (World.block_lt_of_cell? w _ hx170_3)).trans hx170_3
           replace hx170_4 := (HB.out.cell (World.block_lt_of_cell? w _ hx170_4)).trans hx170_4
           replace hx170_5 := (HB.out.cell (World.block_lt_of_cell? w _ hx170_5)).trans hx170_5
           replace p170 := eq_true p170
           replace q170 := eq_true q170
           have p171 : 0 ≤ (x4_1 : Int) := of_decide_eq_true (by first | (with_reducible assumption) | assumption)
           have q171 : x4_1 < (l0_4.length : Int) := of_decide_eq_true (by first | (with_reducible assumption) | assumption)
           obtain ⟨ad171, e171, hx171_0, hx171_1, hx171_2, hx171_3, hx171_4, hx171_5⟩ := at_T38 HR0_4.out x4_1 p171 q171
           have hw171_5 := hx171_5
           have hw171_4 := hx171_4
           have hw171_3 := hx171_3
           have hw171_2 := hx171_2
           have hw171_1 := hx171_1
           have hw171_0 := hx171_0
           (try rw [← Nbq9.out] at hx171_2)
           (try rw [← Nbq9.out] at hw171_2)
           obtain rfl : ad170 = ad171 := (by injection e171)
           replace hx171_0 := (HB.out.cell (World.block_lt_of_cell? w _ hx171_0)).trans hx171_0
           replace hx171_1 := (HB.out.cell (World.block_lt_of_cell? w _ hx171_1)).trans hx171_1
           replace hx171_2 := (HB.out.cell (World.block_lt_of_cell? w _ hx171_2)).trans hx171_2
           replace hx171_3 := (HB.out.cell (World.block_lt_of_cell? w _ hx171_3)).trans hx171_3
           replace hx171_4 := (HB.out.cell (World.block_lt_of_cell? w _ hx171_4)).trans hx171_4
           replace hx171_5 := (HB.out.cell (World.block_lt_of_cell? w _ hx171_5)).trans hx171_5
           replace p171 := eq_true p171
           replace q171 := eq_true q171
           have p173 : 0 ≤ (x3_1 : Int) := of_decide_eq_true (by first | (with_reducible assumption) | assumption)
           have q173 : x3_1 < (l0_4.length : Int) := of_decide_eq_true (by first | (with_reducible assumption) | assumption)
           obtain ⟨ad173, e173, hx173_0, hx173_1, hx173_2, hx173_3, hx173_4, hx173_5⟩ := at_T38 HR0_4.out x3_1 p173 q173
           have hw173_5 := hx173_5
           have hw173_4 := hx173_4
           have hw173_3 := hx173_3
           have hw173_2 := hx173_2
           have hw173_1 := hx173_1
           have hw173_0 := hx173_0
           (try rw [← Nbq9.out] at hx173_2)
           (try rw [← Nbq9.out] at hw173_2)
           obtain rfl : ad170 = ad173 := (by injection e173)
           replace hx173_0 := (HB.out.cell (World.block_lt_of_cell? w _ hx173_0)).trans hx173_0
           replace hx173_1 := (HB.out.cell (World.block_lt_of_cell? w _ hx173_1)).trans hx173_1
           replace hx173_2 := (HB.out.cell (World.block_lt_of_cell? w _ hx173_2)).trans hx173_2
           replace hx173_3 := (HB.out.cell (World.block_lt_of_cell? w _ hx173_3)).trans hx173_3
           replace hx173_4 := (HB.out.cell (World.block_lt_of_cell? w _ hx173_4)).trans hx173_4
           replace hx173_5 := (HB.out.cell (World.block_lt_of_cell? w _ hx173_5)).trans hx173_5
           replace p173 := eq_true p173
           replace q173 := eq_true q173
           refine start_ (n := 27) (S := fun w' => w'.cell? ⟨gb167, 0, none⟩ = some (.int .i64 a0_0) ∧ w'.cell? ⟨gb167, 1, none⟩ = some (.int .i64 a0_1) ∧ w'.cell? ⟨gb167, 2, none⟩ = some (.int .i64 a0_2) ∧ w'.cell? ⟨gb167, 3, none⟩ = some (.int .i64 a0_3) ∧ w'.cell? ⟨gb167, 4, none⟩ = some (.slice (some ad170) l0_4.length c0_4) ∧ w'.cell? (ad170.add ((x4_1).toNat * 6)) = some (.int .i64 ((rd_T38 l0_4 x4_1).f0)) ∧ w'.cell? ⟨(ad170.add ((x4_1).toNat * 6)).block, (ad170.add ((x4_1).toNat * 6)).off + 1, none⟩ = some (.int .i64 ((rd_T38 l0_4 x4_1).f1)) ∧ w'.cell? ⟨(ad170.add ((x4_1).toNat * 6)).block, (ad170.add ((x4_1).toNat * 6)).off + 2, none⟩ = some (.bool true) ∧ w'.cell? ⟨(ad170.add ((x4_1).toNat * 6)).block, (ad170.add ((x4_1).toNat * 6)).off + 3, none⟩ = some (.int .i64 ((rd_T38 l0_4 x4_1).f3.f0)) ∧ w'.cell? ⟨(ad170.add ((x4_1).toNat * 6)).block, (ad170.add ((x4_1).toNat * 6)).off + 4, none⟩ = some (.int .i64 ((rd_T38 l0_4 x4_1).f3.f1)) ∧ w'.cell? ⟨(ad170.add ((x4_1).toNat * 6)).block, (ad170.add ((x4_1).toNat * 6)).off + 5, none⟩ = some (.int .i64 ((rd_T38 l0_4 x4_1).f3.f2)) ∧ w'.cell? (ad170.add ((x4_1).toNat * 6)) = some (.int .i64 ((rd_T38 l0_4 x4_1).f0)) ∧ w'.cell? ⟨(ad170.add ((x4_1).toNat * 6)).block, (ad170.add ((x4_1).toNat * 6)).off + 1, none⟩ = some (.int .i64 ((rd_T38 l0_4 x4_1).f1)) ∧ w'.cell? ⟨(ad170.add ((x4_1).toNat * 6)).block, (ad170.add ((x4_1).toNat * 6)).off + 2, none⟩ = some (.bool (true)) ∧ w'.cell? ⟨(ad170.add ((x4_1).toNat * 6)).block, (ad170.add ((x4_1).toNat * 6)).off + 3, none⟩ = some (.int .i64 ((rd_T38 l0_4 x4_1).f3.f0)) ∧ w'.cell? ⟨(ad170.add ((x4_1).toNat * 6)).block, (ad170.add ((x4_1).toNat * 6)).off + 4, none⟩ = some (.int .i64 ((rd_T38 l0_4 x4_1).f3.f1)) ∧ w'.cell? ⟨(ad170.add ((x4_1).toNat * 6)).block, (ad170.add ((x4_1).toNat * 6)).off + 5, none⟩ = some (.int .i64 ((rd_T38 l0_4 x4_1).f3.f2)) ∧ w'.cell? (ad170.add ((x3_1).toNat * 6)) = some (.int .i64 ((rd_T38 l0_4 x3_1).f0)) ∧ w'.cell? ⟨(ad170.add ((x3_1).toNat * 6)).block, (ad170.add ((x3_1).toNat * 6)).off + 1, none⟩ = some (.int .i64 ((rd_T38 l0_4 x3_1).f1)) ∧ w'.cell? ⟨(ad170.add ((x3_1).toNat * 6)).block, (ad170.add ((x3_1).toNat * 6)).off + 2, none⟩ = some (.bool ((rd_T38 l0_4 x3_1).f2)) ∧ w'.cell? ⟨(ad170.add ((x3_1).toNat * 6)).block, (ad170.add ((x3_1).toNat * 6)).off + 3, none⟩ = some (.int .i64 ((rd_T38 l0_4 x3_1).f3.f0)) ∧ w'.cell? ⟨(ad170.add ((x3_1).toNat * 6)).block, (ad170.add ((x3_1).toNat * 6)).off + 4, none⟩ = some (.int .i64 ((rd_T38 l0_4 x3_1).f3.f1)) ∧ w'.cell? ⟨(ad170.add ((x3_1).toNat * 6)).block, (ad170.add ((x3_1).toNat * 6)).off + 5, none⟩ = some (.int .i64 ((rd_T38 l0_4 x3_1).f3.f2))) (ds := []) (bs 27 0) (by kernel_rfl) rfl rfl ⟨(blk_cell BK167.out 0).trans rfl, (blk_cell BK167.out 1).trans rfl, (blk_cell BK167.out 2).trans rfl, (blk_cell BK167.out 3).trans rfl, (blk_cell BK167.out 4).trans rfl, ((HB.out.cell (World.block_lt_of_cell? w _ hw170_0)).trans hw170_0), ((HB.out.cell (World.block_lt_of_cell? w _ hw170_1)).trans hw170_1), ((HB.out.cell (World.block_lt_of_cell? w _ hw170_2)).trans hw170_2), ((HB.out.cell (World.block_lt_of_cell? w _ hw170_3)).trans hw170_3), ((HB.out.cell (World.block_lt_of_cell? w _ hw170_4)).trans hw170_4), ((HB.out.cell (World.block_lt_of_cell? w _ hw170_5)).trans hw170_5), ((HB.out.cell (World.block_lt_of_cell? w _ hw171_0)).trans hw171_0), ((HB.out.cell (World.block_lt_of_cell? w _ hw171_1)).trans hw171_1), ((HB.out.cell (World.block_lt_of_cell? w _ hw171_2)).trans hw171_2), ((HB.out.cell (World.block_lt_of_cell? w _ hw171_3)).trans hw171_3), ((HB.out.cell (World.block_lt_of_cell? w _ hw171_4)).trans hw171_4), ((HB.out.cell (World.block_lt_of_cell? w _ hw171_5)).trans hw171_5), ((HB.out.cell (World.block_lt_of_cell? w _ hw173_0)).trans hw173_0), ((HB.out.cell (World.block_lt_of_cell? w _ hw173_1)).trans hw173_1), ((HB.out.cell (World.block_lt_of_cell? w _ hw173_2)).trans hw173_2), ((HB.out.cell (World.block_lt_of_cell? w _ hw173_3)).trans hw173_3), ((HB.out.cell (World.block_lt_of_cell? w _ hw173_4)).trans hw173_4), ((HB.out.cell (World.block_lt_of_cell? w _ hw173_5)).trans hw173_5)⟩ (fun hHeld => ?_); refine with_tabW spec_FairPick.tab7 spec_FairPick.bits7 (fun HT_ HW_ => ?_)
           generalize wr.drew = w20 at BK167 HB hx170_0 hx170_1 hx170_2 hx170_3 hx170_4 hx170_5 hx171_0 hx171_1 hx171_2 hx171_3 hx171_4 hx171_5 hx173_0 hx173_1 hx173_2 hx173_3 hx173_4 hx173_5 hHeld ⊢
           refine pure_s (i := 0) (N := some 15) (bs 27 1) (any_of HT_.out (by kernel_rfl)) (h := ?_)
           refine pure_s (i := 2) (N := some 17) #[oT,oF,oT,oF,oF,oF,oF,oF,oF,oF,oF,oF,oF,oF,oF,oF,oF,oF,oF,oF,oF,oF,oF,oF,oF,oF,oF] (any_of HT_.out (by kernel_rfl)) (h := ?_)
           refine take_ (i := 1) (N := some 16) (v := ?_) (a' := ?_) (bs 27 3) rfl rfl (take_ofW HT_.out HW_.out (by kernel_rfl)) (fun _ _ _ h => h) (Or.inl ⟨by rfl, ?_⟩) hHeld ?_ ?_
           rotate_left
           ·rintro w' ⟨s0, s1, s2, s3, s4, s5, s6, s7, s8, s9, s10, s11, s12, s13, s14, s15, s16, s17, s18, s19, s20, s21, s22⟩
            go_simp
            with_reducible rfl
           rotate_left
           ·simp only [Act.put, List.setIfInBounds_toArray, List.set_cons_zero, List.set_cons_succ, i64_w, i32_w]
            rfl
           refine pure_s (i := 3) (N := some 18) (bs 27 4) (any_of HT_.out (by kernel_rfl)) (h := ?_)
           refine pure_s (i := 4) (N := some 19) (bs 27 5) (any_of HT_.out (by kernel_rfl)) (h := ?_)
           refine take_ (i := 5) (N := some 20) (v := ?_) (a' := ?_) (bs 27 6) rfl rfl (take_ofW HT_.out HW_.out (by kernel_rfl)) (fun _ _ _ h => h) (Or.inl ⟨by rfl, ?_⟩) hHeld ?_ ?_
           rotate_left
           ·rintro w' ⟨s0, s1, s2, s3, s4, s5, s6, s7, s8, s9, s10, s11, s12, s13, s14, s15, s16, s17, s18, s19, s20, s21, s22⟩
            go_simp
            with_reducible rfl
           rotate_left
           ·simp only [Act.put, List.setIfInBounds_toArray, List.set_cons_zero, List.set_cons_succ, i64_w, i32_w]
            rfl
           refine pure_s (i := 6) (N := some 21) (bs 27 7) (any_of HT_.out (by kernel_rfl)) (h := ?_)
           refine pure_s (i := 7) (N := some 22) (bs 27 8) (any_of HT_.out (by kernel_rfl)) (h := ?_)
           refine pure_s (i := 8) (N := some 23) (bs 27 9) (any_of HT_.out (by kernel_rfl)) (h := ?_)
           refine pure_s (i := 9) (N := some 24) (bs 27 10) (any_of HT_.out (by kernel_rfl)) (h := ?_)
           refine pure_s (i := 10) (N := some 25) (bs 27 11) (any_of HT_.out (by kernel_rfl)) (h := ?_)
           refine pure_s (i := 12) (N := some 27) #[oT,oT,oT,oT,oT,oT,oT,oT,oT,oT,oT,oF,oT,oF,oF,oF,oF,oF,oF,oF,oF,oF,oF,oF,oF,oF,oF] (any_of HT_.out (by kernel_rfl)) (h := ?_)
           refine pure_s (i := 17) (N := some 32) #[oT,oT,oT,oT,oT,oT,oT,oT,oT,oT,oT,oF,oT,oF,oF,oF,oF,oT,oF,oF,oF,oF,oF,oF,oF,oF,oF] (any_of HT_.out (by kernel_rfl)) (h := ?_)
           refine pure_s (i := 19) (N := some 34) #[oT,oT,oT,oT,oT,oT,oT,oT,oT,oT,oT,oF,oT,oF,oF,oF,oF,oT,oF,oT,oF,oF,oF,oF,oF,oF,oF] (any_of HT_.out (by kernel_rfl)) (h := ?_)
           refine take_ (i := 11) (N := some 26) (v := ?_) (a' := ?_) #[oT,oT,oT,oT,oT,oT,oT,oT,oT,oT,oT,oT,oT,oF,oF,oF,oF,oT,oF,oT,oF,oF,oF,oF,oF,oF,oF] rfl rfl (take_ofW HT_.out HW_.out (by kernel_rfl)) (fun _ _ _ h => h) (Or.inl ⟨by rfl, ?_⟩) hHeld ?_ ?_
           rotate_left
           ·rintro w' ⟨s0, s1, s2, s3, s4, s5, s6, s7, s8, s9, s10, s11, s12, s13, s14, s15, s16, s17, s18, s19, s20, s21, s22⟩
            go_simp
            with_reducible rfl
           rotate_left
           ·simp only [Act.put, List.setIfInBounds_toArray, List.set_cons_zero, List.set_cons_succ, i64_w, i32_w]
            rfl
           refine pure_s (i := 13) (N := some 28) #[oT,oT,oT,oT,oT,oT,oT,oT,oT,oT,oT,oT,oT,oT,oF,oF,oF,oT,oF,oT,oF,oF,oF,oF,oF,oF,oF] (any_of HT_.out (by kernel_rfl)) (h := ?_)
           refine pure_s (i := 14) (N := some 29) #[oT,oT,oT,oT,oT,oT,oT,oT,oT,oT,oT,oT,oT,oT,oT,oF,oF,oT,oF,oT,oF,oF,oF,oF,oF,oF,oF] (any_of HT_.out (by kernel_rfl)) (h := ?_)
           refine take_ (i := 15) (N := some 30) (v := ?_) (a' := ?_) #[oT,oT,oT,oT,oT,oT,oT,oT,oT,oT,oT,oT,oT,oT,oT,oT,oF,oT,oF,oT,oF,oF,oF,oF,oF,oF,oF] rfl rfl (take_ofW HT_.out HW_.out (by kernel_rfl)) (fun _ _ _ h => h) (Or.inl ⟨by rfl, ?_⟩) hHeld ?_ ?_
           rotate_left
           ·rintro w' ⟨s0, s1, s2, s3, s4, s5, s6, s7, s8, s9, s10, s11, s12, s13, s14, s15, s16, s17, s18, s19, s20, s21, s22⟩
            go_simp
            with_reducible rfl
           rotate_left
           ·simp only [Act.put, List.setIfInBounds_toArray, List.set_cons_zero, List.set_cons_succ, i64_w, i32_w]
            rfl
           refine take_ (i := 18) (N := some 33) (v := ?_) (a' := ?_) #[oT,oT,oT,oT,oT,oT,oT,oT,oT,oT,oT,oT,oT,oT,oT,oT,oF,oT,oT,oT,oF,oF,oF,oF,oF,oF,oF] rfl rfl (take_ofW HT_.out HW_.out (by kernel_rfl)) (fun _ _ _ h => h) (Or.inl ⟨by rfl, ?_⟩) hHeld ?_ ?_
           rotate_left
           ·rintro w' ⟨s0, s1, s2, s3, s4, s5, s6, s7, s8, s9, s10, s11, s12, s13, s14, s15, s16, s17, s18, s19, s20, s21, s22⟩
            go_simp
            with_reducible rfl
           rotate_left
           ·simp only [Act.put, List.setIfInBounds_toArray, List.set_cons_zero, List.set_cons_succ, i64_w, i32_w]
            rfl
           refine pure_s (i := 20) (N := some 35) #[oT,oT,oT,oT,oT,oT,oT,oT,oT,oT,oT,oT,oT,oT,oT,oT,oF,oT,oT,oT,oT,oF,oF,oF,oF,oF,oF] (any_of HT_.out (by kernel_rfl)) (h := ?_)
           refine pure_s (i := 21) (N := some 36) #[oT,oT,oT,oT,oT,oT,oT,oT,oT,oT,oT,oT,oT,oT,oT,oT,oF,oT,oT,oT,oT,oT,oF,oF,oF,oF,oF] (any_of HT_.out (by kernel_rfl)) (h := ?_)
           refine take_ (i := 22) (N := some 37) (v := ?_) (a' := ?_) #[oT,oT,oT,oT,oT,oT,oT,oT,oT,oT,oT,oT,oT,oT,oT,oT,oF,oT,oT,oT,oT,oT,oT,oF,oF,oF,oF] rfl rfl (take_ofW HT_.out HW_.out (by kernel_rfl)) (fun _ _ _ h => h) (Or.inl ⟨by rfl, ?_⟩) hHeld ?_ ?_
           rotate_left
           ·rintro w' ⟨s0, s1, s2, s3, s4, s5, s6, s7, s8, s9, s10, s11, s12, s13, s14, s15, s16, s17, s18, s19, s20, s21, s22⟩
            go_simp
            with_reducible rfl
           rotate_left
           ·simp only [Act.put, List.setIfInBounds_toArray, List.set_cons_zero, List.set_cons_succ, i64_w, i32_w]
            rfl
           refine one_ (i := 16) (N := some 31) (bs 27 23) rfl rfl (one_of HT_.out (by kernel_rfl)) (by decide) (fun K hK => ?_)
           refine goes_ Try.func40 (by kernel_rfl) rfl #[.agg #[.int .i64 ((rd_T38 l0_4 x4_1).f3.f0), .int .i64 ((rd_T38 l0_4 x4_1).f3.f1), .int .i64 ((rd_T38 l0_4 x4_1).f3.f2)]] (by rfl) rfl rfl (by (try simp only [List.map_toArray, List.map_cons, List.map_nil]); first | done | rfl | (simp only [List.length_drop, List.length_take]; rfl)) ?_
           with_reducible refine (spec_VecTop.calls ((rd_T38 l0_4 x4_1).f3.f0) ((rd_T38 l0_4 x4_1).f3.f1) ((rd_T38 l0_4 x4_1).f3.f2) t172 _ A14.out).mono ?_
           rintro e w21 ⟨rfl, hb⟩
           refine ⟨_, rfl, ?_⟩
           have n0_ := Aside0.mk (blk_below (g := gb167) (o := .cells #[.int .i64 a0_0, .int .i64 a0_1, .int .i64 a0_2, .int .i64 a0_3, .slice (some ad170) l0_4.length c0_4] 32 (0, 0)) (by (with_reducible repeat (first | refine blk_drewN ?_ _ | refine blk_drew ?_ | refine blk_alloc ?_ _)); exact BK167.out) hb)
           have n1_ := Aside0.mk (below_step (by repeat (first | (with_reducible first | exact HB.out | apply below_alloc | apply pw_below_drewN | apply below_drew1 | refine below_set ?_ GE167.out) | exact HB.out)) hb)
           clear BK167
           clear HB
           have BK167 := n0_
           have HB := n1_
           clear n0_ n1_
           (try clear hb)
           (try clear hb2)
           (try clear hk)
           (try clear hi)
           refine hK.out _ _ ⟨(blk_cell BK167.out 0).trans rfl, (blk_cell BK167.out 1).trans rfl, (blk_cell BK167.out 2).trans rfl, (blk_cell BK167.out 3).trans rfl, (blk_cell BK167.out 4).trans rfl, ((HB.out.cell (World.block_lt_of_cell? w _ hw170_0)).trans hw170_0), ((HB.out.cell (World.block_lt_of_cell? w _ hw170_1)).trans hw170_1), ((HB.out.cell (World.block_lt_of_cell? w _ hw170_2)).trans hw170_2), ((HB.out.cell (World.block_lt_of_cell? w _ hw170_3)).trans hw170_3), ((HB.out.cell (World.block_lt_of_cell? w _ hw170_4)).trans hw170_4), ((HB.out.cell (World.block_lt_of_cell? w _ hw170_5)).trans hw170_5), ((HB.out.cell (World.block_lt_of_cell? w _ hw171_0)).trans hw171_0), ((HB.out.cell (World.block_lt_of_cell? w _ hw171_1)).trans hw171_1), ((HB.out.cell (World.block_lt_of_cell? w _ hw171_2)).trans hw171_2), ((HB.out.cell (World.block_lt_of_cell? w _ hw171_3)).trans hw171_3), ((HB.out.cell (World.block_lt_of_cell? w _ hw171_4)).trans hw171_4), ((HB.out.cell (World.block_lt_of_cell? w _ hw171_5)).trans hw171_5), ((HB.out.cell (World.block_lt_of_cell? w _ hw173_0)).trans hw173_0), ((HB.out.cell (World.block_lt_of_cell? w _ hw173_1)).trans hw173_1), ((HB.out.cell (World.block_lt_of_cell? w _ hw173_2)).trans hw173_2), ((HB.out.cell (World.block_lt_of_cell? w _ hw173_3)).trans hw173_3), ((HB.out.cell (World.block_lt_of_cell? w _ hw173_4)).trans hw173_4), ((HB.out.cell (World.block_lt_of_cell? w _ hw173_5)).trans hw173_5)⟩ (fun hHeld => ?_)
           clear hK K
           refine norm_ (a' := ?_) ?_ ?_
           rotate_left
           ·show Act.put _ (some 31) _ = _
            simp only [Act.put, List.setIfInBounds_toArray, List.set_cons_zero, List.set_cons_succ, i64_w, i32_w]
            rfl
           refine one_ (i := 23) (N := some 38) (bs 27 24) rfl rfl (one_of HT_.out (by kernel_rfl)) (by decide) (fun K hK => ?_)
           refine goes_ Try.func40 (by kernel_rfl) rfl #[.agg #[.int .i64 ((rd_T38 l0_4 x3_1).f3.f0), .int .i64 ((rd_T38 l0_4 x3_1).f3.f1), .int .i64 ((rd_T38 l0_4 x3_1).f3.f2)]] (by rfl) rfl rfl (by (try simp only [List.map_toArray, List.map_cons, List.map_nil]); first | done | rfl | (simp only [List.length_drop, List.length_take]; rfl)) ?_
           with_reducible refine (spec_VecTop.calls ((rd_T38 l0_4 x3_1).f3.f0) ((rd_T38 l0_4 x3_1).f3.f1) ((rd_T38 l0_4 x3_1).f3.f2) t174 _ A17.out).mono ?_
           rintro e w22 ⟨rfl, hb⟩
           refine ⟨_, rfl, ?_⟩
           have n0_ := Aside0.mk (blk_below (g := gb167) (o := .cells #[.int .i64 a0_0, .int .i64 a0_1, .int .i64 a0_2, .int .i64 a0_3, .slice (some ad170) l0_4.length c0_4] 32 (0, 0)) (by (with_reducible repeat (first | refine blk_drewN ?_ _ | refine blk_drew ?_ | refine blk_alloc ?_ _)); exact BK167.out) hb)
           have n1_ := Aside0.mk (below_step (by repeat (first | (with_reducible first | exact HB.out | apply below_alloc | apply pw_below_drewN | apply below_drew1 | refine below_set ?_ GE167.out) | exact HB.out)) hb)
           clear BK167
           clear HB
           have BK167 := n0_
           have HB := n1_
           clear n0_ n1_
           (try clear hb)
           (try clear hb2)
           (try clear hk)
           (try clear hi)
           refine hK.out _ _ ⟨(blk_cell BK167.out 0).trans rfl, (blk_cell BK167.out 1).trans rfl, (blk_cell BK167.out 2).trans rfl, (blk_cell BK167.out 3).trans rfl, (blk_cell BK167.out 4).trans rfl, ((HB.out.cell (World.block_lt_of_cell? w _ hw170_0)).trans hw170_0), ((HB.out.cell (World.block_lt_of_cell? w _ hw170_1)).trans hw170_1), ((HB.out.cell (World.block_lt_of_cell? w _ hw170_2)).trans hw170_2), ((HB.out.cell (World.block_lt_of_cell? w _ hw170_3)).trans hw170_3), ((HB.out.cell (World.block_lt_of_cell? w _ hw170_4)).trans hw170_4), ((HB.out.cell (World.block_lt_of_cell? w _ hw170_5)).trans hw170_5), ((HB.out.cell (World.block_lt_of_cell? w _ hw171_0)).trans hw171_0), ((HB.out.cell (World.block_lt_of_cell? w _ hw171_1)).trans hw171_1), ((HB.out.cell (World.block_lt_of_cell? w _ hw171_2)).trans hw171_2), ((HB.out.cell (World.block_lt_of_cell? w _ hw171_3)).trans hw171_3), ((HB.out.cell (World.block_lt_of_cell? w _ hw171_4)).trans hw171_4), ((HB.out.cell (World.block_lt_of_cell? w _ hw171_5)).trans hw171_5), ((HB.out.cell (World.block_lt_of_cell? w _ hw173_0)).trans hw173_0), ((HB.out.cell (World.block_lt_of_cell? w _ hw173_1)).trans hw173_1), ((HB.out.cell (World.block_lt_of_cell? w _ hw173_2)).trans hw173_2), ((HB.out.cell (World.block_lt_of_cell? w _ hw173_3)).trans hw173_3), ((HB.out.cell (World.block_lt_of_cell? w _ hw173_4)).trans hw173_4), ((HB.out.cell (World.block_lt_of_cell? w _ hw173_5)).trans hw173_5)⟩ (fun hHeld => ?_)
           clear hK K
           refine norm_ (a' := ?_) ?_ ?_
           rotate_left
           ·show Act.put _ (some 38) _ = _
            simp only [Act.put, List.setIfInBounds_toArray, List.set_cons_zero, List.set_cons_succ, i64_w, i32_w]
            rfl
           refine pure_s (i := 24) (N := some 39) (bs 27 25) (any_of HT_.out (by kernel_rfl)) (h := ?_)
           refine pure_s (i := 25) (N := some 40) (bs 27 26) (any_of HT_.out (by kernel_rfl)) (h := ?_)
           refine pure_s (i := 26) (N := some 41) (bs 27 27) (any_of HT_.out (by kernel_rfl)) (h := ?_)
           refine done_ (done_of HT_.out (by kernel_rfl)) ?_
           try go_wp2
           go_roundg k1
           case measure => have := HK1.out; omega
           case rel => exact ⟨(x4_1), (wrap64 (x4_1 + 1)), (by first | rfl | (simp; done) | (simp [*]; done)), (by first | rfl | (simp; done) | (simp [*]; done)), H', ⟨by have := HK1.out; omega⟩, ⟨by (with_reducible repeat (first | refine blk_drewN ?_ _ | refine blk_drew ?_ | refine blk_alloc ?_ _)); exact BK167.out⟩, ⟨by repeat (first | (with_reducible first | exact HB.out | apply below_alloc | apply pw_below_drewN | apply below_drew1 | refine below_set ?_ GE167.out) | exact HB.out)⟩⟩
          ·rw [if_neg c18] at H
           have c18b0 : decide (t172 < t174) = false := decide_eq_false c18
           clear c18
           have H' := Aside0.mk H
           clear H
           have hcz23_0 : wr.cell? ⟨gb167, 0, none⟩ = some (.int .i64 a0_0) := (blk_cell BK167.out 0).trans rfl
           have hcz23_1 : wr.cell? ⟨gb167, 1, none⟩ = some (.int .i64 a0_1) := (blk_cell BK167.out 1).trans rfl
           have hcz23_2 : wr.cell? ⟨gb167, 2, none⟩ = some (.int .i64 a0_2) := (blk_cell BK167.out 2).trans rfl
           have hcz23_3 : wr.cell? ⟨gb167, 3, none⟩ = some (.int .i64 a0_3) := (blk_cell BK167.out 3).trans rfl
           have hcz23_4 : wr.cell? ⟨gb167, 4, none⟩ = some (.slice A0_4 l0_4.length c0_4) := (blk_cell BK167.out 4).trans rfl
           have hfz23_0 := blk_frozen BK167.out 0
           have hfz23_1 := blk_frozen BK167.out 1
           have hfz23_2 := blk_frozen BK167.out 2
           have hfz23_3 := blk_frozen BK167.out 3
           have hfz23_4 := blk_frozen BK167.out 4
           try go_wp2
           have n0_ := Aside0.mk (blk_drew BK167.out)
           have n1_ := Aside0.mk (below_drew1 HB.out)
           clear BK167
           clear HB
           have BK167 := n0_
           have HB := n1_
           clear n0_ n1_
           have p170 : 0 ≤ (x4_1 : Int) := of_decide_eq_true (by first | (with_reducible assumption) | assumption)
           have q170 : x4_1 < (l0_4.length : Int) := of_decide_eq_true (by first | (with_reducible assumption) | assumption)
           obtain ⟨ad170, e170, hx170_0, hx170_1, hx170_2, hx170_3, hx170_4, hx170_5⟩ := at_T38 HR0_4.out x4_1 p170 q170
           have hw170_5 := hx170_5
           have hw170_4 := hx170_4
           have hw170_3 := hx170_3
           have hw170_2 := hx170_2
           have hw170_1 := hx170_1
           have hw170_0 := hx170_0
           (try rw [← Nbq9.out] at hx170_2)
           (try rw [← Nbq9.out] at hw170_2)
           cases e170
           replace hx170_0 := (HB.out.cell (World.block_lt_of_cell? w _ hx170_0)).trans hx170_0
           replace hx170_1 := (HB.out.cell (World.block_lt_of_cell? w _ hx170_1)).trans hx170_1
           replace hx170_2 := (HB.out.cell (World.block_lt_of_cell? w _ hx170_2)).trans hx170_2
           replace hx170_3 := (HB.out.cell (World.block_lt_of_cell? w _ hx170_3)).trans hx170_3
           replace hx170_4 := (HB.out.cell (World.block_lt_of_cell? w _ hx170_4)).trans hx170_4
           replace hx170_5 := (HB.out.cell (World.block_lt_of_cell? w _ hx170_5)).trans hx170_5
           replace p170 := eq_true p170
           replace q170 := eq_true q170
           have p171 : 0 ≤ (x4_1 : Int) := of_decide_eq_true (by first | (with_reducible assumption) | assumption)
           have q171 : x4_1 < (l0_4.length : Int) := of_decide_eq_true (by first | (with_reducible assumption) | assumption)
           obtain ⟨ad171, e171, hx171_0, hx171_1, hx171_2, hx171_3, hx171_4, hx171_5⟩ := at_T38 HR0_4.out x4_1 p171 q171
           have hw171_5 := hx171_5
           have hw171_4 := hx171_4
           have hw171_3 := hx171_3
           have hw171_2 := hx171_2
           have hw171_1 := hx171_1
           have hw171_0 := hx171_0
           (try rw [← Nbq9.out] at hx171_2)
           (try rw [← Nbq9.out] at hw171_2)
           obtain rfl : ad170 = ad171 := (by injection e171)
           replace hx171_0 := (HB.out.cell (World.block_lt_of_cell? w _ hx171_0)).trans hx171_0
           replace hx171_1 := (HB.out.cell (World.block_lt_of_cell? w _ hx171_1)).trans hx171_1
           replace hx171_2 := (HB.out.cell (World.block_lt_of_cell? w _ hx171_2)).trans hx171_2
           replace hx171_3 := (HB.out.cell (World.block_lt_of_cell? w _ hx171_3)).trans hx171_3
           replace hx171_4 := (HB.out.cell (World.block_lt_of_cell? w _ hx171_4)).trans hx171_4
           replace hx171_5 := (HB.out.cell (World.block_lt_of_cell? w _ hx171_5)).trans hx171_5
           replace p171 := eq_true p171
           replace q171 := eq_true q171
           have p173 : 0 ≤ (x3_1 : Int) := of_decide_eq_true (by first | (with_reducible assumption) | assumption)
           have q173 : x3_1 < (l0_4.length : Int) := of_decide_eq_true (by first | (with_reducible assumption) | assumption)
           obtain ⟨ad173, e173, hx173_0, hx173_1, hx173_2, hx173_3, hx173_4, hx173_5⟩ := at_T38 HR0_4.out x3_1 p173 q173
           have hw173_5 := hx173_5
           have hw173_4 := hx173_4
           have hw173_3 := hx173_3
           have hw173_2 := hx173_2
           have hw173_1 := hx173_1
           have hw173_0 := hx173_0
           (try rw [← Nbq9.out] at hx173_2)
           (try rw [← Nbq9.out] at hw173_2)
           obtain rfl : ad170 = ad173 := (by injection e173)
           replace hx173_0 := (HB.out.cell (World.block_lt_of_cell? w _ hx173_0)).trans hx173_0
           replace hx173_1 := (HB.out.cell (World.block_lt_of_cell? w _ hx173_1)).trans hx173_1
           replace hx173_2 := (HB.out.cell (World.block_lt_of_cell? w _ hx173_2)).trans hx173_2
           replace hx173_3 := (HB.out.cell (World.block_lt_of_cell? w _ hx173_3)).trans hx173_3
           replace hx173_4 := (HB.out.cell (World.block_lt_of_cell? w _ hx173_4)).trans hx173_4
           replace hx173_5 := (HB.out.cell (World.block_lt_of_cell? w _ hx173_5)).trans hx173_5
           replace p173 := eq_true p173
           replace q173 := eq_true q173
           refine start_ (n := 27) (S := fun w' => w'.cell? ⟨gb167, 0, none⟩ = some (.int .i64 a0_0) ∧ w'.cell? ⟨gb167, 1, none⟩ = some (.int .i64 a0_1) ∧ w'.cell? ⟨gb167, 2, none⟩ = some (.int .i64 a0_2) ∧ w'.cell? ⟨gb167, 3, none⟩ = some (.int .i64 a0_3) ∧ w'.cell? ⟨gb167, 4, none⟩ = some (.slice (some ad170) l0_4.length c0_4) ∧ w'.cell? (ad170.add ((x4_1).toNat * 6)) = some (.int .i64 ((rd_T38 l0_4 x4_1).f0)) ∧ w'.cell? ⟨(ad170.add ((x4_1).toNat * 6)).block, (ad170.add ((x4_1).toNat * 6)).off + 1, none⟩ = some (.int .i64 ((rd_T38 l0_4 x4_1).f1)) ∧ w'.cell? ⟨(ad170.add ((x4_1).toNat * 6)).block, (ad170.add ((x4_1).toNat * 6)).off + 2, none⟩ = some (.bool true) ∧ w'.cell? ⟨(ad170.add ((x4_1).toNat * 6)).block, (ad170.add ((x4_1).toNat * 6)).off + 3, none⟩ = some (.int .i64 ((rd_T38 l0_4 x4_1).f3.f0)) ∧ w'.cell? ⟨(ad170.add ((x4_1).toNat * 6)).block, (ad170.add ((x4_1).toNat * 6)).off + 4, none⟩ = some (.int .i64 ((rd_T38 l0_4 x4_1).f3.f1)) ∧ w'.cell? ⟨(ad170.add ((x4_1).toNat * 6)).block, (ad170.add ((x4_1).toNat * 6)).off + 5, none⟩ = some (.int .i64 ((rd_T38 l0_4 x4_1).f3.f2)) ∧ w'.cell? (ad170.add ((x4_1).toNat * 6)) = some (.int .i64 ((rd_T38 l0_4 x4_1).f0)) ∧ w'.cell? ⟨(ad170.add ((x4_1).toNat * 6)).block, (ad170.add ((x4_1).toNat * 6)).off + 1, none⟩ = some (.int .i64 ((rd_T38 l0_4 x4_1).f1)) ∧ w'.cell? ⟨(ad170.add ((x4_1).toNat * 6)).block, (ad170.add ((x4_1).toNat * 6)).off + 2, none⟩ = some (.bool (true)) ∧ w'.cell? ⟨(ad170.add ((x4_1).toNat * 6)).block, (ad170.add ((x4_1).toNat * 6)).off + 3, none⟩ = some (.int .i64 ((rd_T38 l0_4 x4_1).f3.f0)) ∧ w'.cell? ⟨(ad170.add ((x4_1).toNat * 6)).block, (ad170.add ((x4_1).toNat * 6)).off + 4, none⟩ = some (.int .i64 ((rd_T38 l0_4 x4_1).f3.f1)) ∧ w'.cell? ⟨(ad170.add ((x4_1).toNat * 6)).block, (ad170.add ((x4_1).toNat * 6)).off + 5, none⟩ = some (.int .i64 ((rd_T38 l0_4 x4_1).f3.f2)) ∧ w'.cell? (ad170.add ((x3_1).toNat * 6)) = some (.int .i64 ((rd_T38 l0_4 x3_1).f0)) ∧ w'.cell? ⟨(ad170.add ((x3_1).toNat * 6)).block, (ad170.add ((x3_1).toNat * 6)).off + 1, none⟩ = some (.int .i64 ((rd_T38 l0_4 x3_1).f1)) ∧ w'.cell? ⟨(ad170.add ((x3_1).toNat * 6)).block, (ad170.add ((x3_1).toNat * 6)).off + 2, none⟩ = some (.bool ((rd_T38 l0_4 x3_1).f2)) ∧ w'.cell? ⟨(ad170.add ((x3_1).toNat * 6)).block, (ad170.add ((x3_1).toNat * 6)).off + 3, none⟩ = some (.int .i64 ((rd_T38 l0_4 x3_1).f3.f0)) ∧ w'.cell? ⟨(ad170.add ((x3_1).toNat * 6)).block, (ad170.add ((x3_1).toNat * 6)).off + 4, none⟩ = some (.int .i64 ((rd_T38 l0_4 x3_1).f3.f1)) ∧ w'.cell? ⟨(ad170.add ((x3_1).toNat * 6)).block, (ad170.add ((x3_1).toNat * 6)).off + 5, none⟩ = some (.int .i64 ((rd_T38 l0_4 x3_1).f3.f2))) (ds := []) (bs 27 0) (by kernel_rfl) rfl rfl ⟨(blk_cell BK167.out 0).trans rfl, (blk_cell BK167.out 1).trans rfl, (blk_cell BK167.out 2).trans rfl, (blk_cell BK167.out 3).trans rfl, (blk_cell BK167.out 4).trans rfl, ((HB.out.cell (World.block_lt_of_cell? w _ hw170_0)).trans hw170_0), ((HB.out.cell (World.block_lt_of_cell? w _ hw170_1)).trans hw170_1), ((HB.out.cell (World.block_lt_of_cell? w _ hw170_2)).trans hw170_2), ((HB.out.cell (World.block_lt_of_cell? w _ hw170_3)).trans hw170_3), ((HB.out.cell (World.block_lt_of_cell? w _ hw170_4)).trans hw170_4), ((HB.out.cell (World.block_lt_of_cell? w _ hw170_5)).trans hw170_5), ((HB.out.cell (World.block_lt_of_cell? w _ hw171_0)).trans hw171_0), ((HB.out.cell (World.block_lt_of_cell? w _ hw171_1)).trans hw171_1), ((HB.out.cell (World.block_lt_of_cell? w _ hw171_2)).trans hw171_2), ((HB.out.cell (World.block_lt_of_cell? w _ hw171_3)).trans hw171_3), ((HB.out.cell (World.block_lt_of_cell? w _ hw171_4)).trans hw171_4), ((HB.out.cell (World.block_lt_of_cell? w _ hw171_5)).trans hw171_5), ((HB.out.cell (World.block_lt_of_cell? w _ hw173_0)).trans hw173_0), ((HB.out.cell (World.block_lt_of_cell? w _ hw173_1)).trans hw173_1), ((HB.out.cell (World.block_lt_of_cell? w _ hw173_2)).trans hw173_2), ((HB.out.cell (World.block_lt_of_cell? w _ hw173_3)).trans hw173_3), ((HB.out.cell (World.block_lt_of_cell? w _ hw173_4)).trans hw173_4), ((HB.out.cell (World.block_lt_of_cell? w _ hw173_5)).trans hw173_5)⟩ (fun hHeld => ?_); refine with_tabW spec_FairPick.tab7 spec_FairPick.bits7 (fun HT_ HW_ => ?_)
           generalize wr.drew = w24 at BK167 HB hx170_0 hx170_1 hx170_2 hx170_3 hx170_4 hx170_5 hx171_0 hx171_1 hx171_2 hx171_3 hx171_4 hx171_5 hx173_0 hx173_1 hx173_2 hx173_3 hx173_4 hx173_5 hHeld ⊢
           refine pure_s (i := 0) (N := some 15) (bs 27 1) (any_of HT_.out (by kernel_rfl)) (h := ?_)
           refine pure_s (i := 2) (N := some 17) #[oT,oF,oT,oF,oF,oF,oF,oF,oF,oF,oF,oF,oF,oF,oF,oF,oF,oF,oF,oF,oF,oF,oF,oF,oF,oF,oF] (any_of HT_.out (by kernel_rfl)) (h := ?_)
           refine take_ (i := 1) (N := some 16) (v := ?_) (a' := ?_) (bs 27 3) rfl rfl (take_ofW HT_.out HW_.out (by kernel_rfl)) (fun _ _ _ h => h) (Or.inl ⟨by rfl, ?_⟩) hHeld ?_ ?_
           rotate_left
           ·rintro w' ⟨s0, s1, s2, s3, s4, s5, s6, s7, s8, s9, s10, s11, s12, s13, s14, s15, s16, s17, s18, s19, s20, s21, s22⟩
            go_simp
            with_reducible rfl
           rotate_left
           ·simp only [Act.put, List.setIfInBounds_toArray, List.set_cons_zero, List.set_cons_succ, i64_w, i32_w]
            rfl
           refine pure_s (i := 3) (N := some 18) (bs 27 4) (any_of HT_.out (by kernel_rfl)) (h := ?_)
           refine pure_s (i := 4) (N := some 19) (bs 27 5) (any_of HT_.out (by kernel_rfl)) (h := ?_)
           refine take_ (i := 5) (N := some 20) (v := ?_) (a' := ?_) (bs 27 6) rfl rfl (take_ofW HT_.out HW_.out (by kernel_rfl)) (fun _ _ _ h => h) (Or.inl ⟨by rfl, ?_⟩) hHeld ?_ ?_
           rotate_left
           ·rintro w' ⟨s0, s1, s2, s3, s4, s5, s6, s7, s8, s9, s10, s11, s12, s13, s14, s15, s16, s17, s18, s19, s20, s21, s22⟩
            go_simp
            with_reducible rfl
           rotate_left
           ·simp only [Act.put, List.setIfInBounds_toArray, List.set_cons_zero, List.set_cons_succ, i64_w, i32_w]
            rfl
           refine pure_s (i := 6) (N := some 21) (bs 27 7) (any_of HT_.out (by kernel_rfl)) (h := ?_)
           refine pure_s (i := 7) (N := some 22) (bs 27 8) (any_of HT_.out (by kernel_rfl)) (h := ?_)
           refine pure_s (i := 8) (N := some 23) (bs 27 9) (any_of HT_.out (by kernel_rfl)) (h := ?_)
           refine pure_s (i := 9) (N := some 24) (bs 27 10) (any_of HT_.out (by kernel_rfl)) (h := ?_)
           refine pure_s (i := 10) (N := some 25) (bs 27 11) (any_of HT_.out (by kernel_rfl)) (h := ?_)
           refine pure_s (i := 12) (N := some 27) #[oT,oT,oT,oT,oT,oT,oT,oT,oT,oT,oT,oF,oT,oF,oF,oF,oF,oF,oF,oF,oF,oF,oF,oF,oF,oF,oF] (any_of HT_.out (by kernel_rfl)) (h := ?_)
           refine pure_s (i := 17) (N := some 32) #[oT,oT,oT,oT,oT,oT,oT,oT,oT,oT,oT,oF,oT,oF,oF,oF,oF,oT,oF,oF,oF,oF,oF,oF,oF,oF,oF] (any_of HT_.out (by kernel_rfl)) (h := ?_)
           refine pure_s (i := 19) (N := some 34) #[oT,oT,oT,oT,oT,oT,oT,oT,oT,oT,oT,oF,oT,oF,oF,oF,oF,oT,oF,oT,oF,oF,oF,oF,oF,oF,oF] (any_of HT_.out (by kernel_rfl)) (h := ?_)
           refine take_ (i := 11) (N := some 26) (v := ?_) (a' := ?_) #[oT,oT,oT,oT,oT,oT,oT,oT,oT,oT,oT,oT,oT,oF,oF,oF,oF,oT,oF,oT,oF,oF,oF,oF,oF,oF,oF] rfl rfl (take_ofW HT_.out HW_.out (by kernel_rfl)) (fun _ _ _ h => h) (Or.inl ⟨by rfl, ?_⟩) hHeld ?_ ?_
           rotate_left
           ·rintro w' ⟨s0, s1, s2, s3, s4, s5, s6, s7, s8, s9, s10, s11, s12, s13, s14, s15, s16, s17, s18, s19, s20, s21, s22⟩
            go_simp
            with_reducible rfl
           rotate_left
           ·simp only [Act.put, List.setIfInBounds_toArray, List.set_cons_zero, List.set_cons_succ, i64_w, i32_w]
            rfl
           refine pure_s (i := 13) (N := some 28) #[oT,oT,oT,oT,oT,oT,oT,oT,oT,oT,oT,oT,oT,oT,oF,oF,oF,oT,oF,oT,oF,oF,oF,oF,oF,oF,oF] (any_of HT_.out (by kernel_rfl)) (h := ?_)
           refine pure_s (i := 14) (N := some 29) #[oT,oT,oT,oT,oT,oT,oT,oT,oT,oT,oT,oT,oT,oT,oT,oF,oF,oT,oF,oT,oF,oF,oF,oF,oF,oF,oF] (any_of HT_.out (by kernel_rfl)) (h := ?_)
           refine take_ (i := 15) (N := some 30) (v := ?_) (a' := ?_) #[oT,oT,oT,oT,oT,oT,oT,oT,oT,oT,oT,oT,oT,oT,oT,oT,oF,oT,oF,oT,oF,oF,oF,oF,oF,oF,oF] rfl rfl (take_ofW HT_.out HW_.out (by kernel_rfl)) (fun _ _ _ h => h) (Or.inl ⟨by rfl, ?_⟩) hHeld ?_ ?_
           rotate_left
           ·rintro w' ⟨s0, s1, s2, s3, s4, s5, s6, s7, s8, s9, s10, s11, s12, s13, s14, s15, s16, s17, s18, s19, s20, s21, s22⟩
            go_simp
            with_reducible rfl
           rotate_left
           ·simp only [Act.put, List.setIfInBounds_toArray, List.set_cons_zero, List.set_cons_succ, i64_w, i32_w]
            rfl
           refine take_ (i := 18) (N := some 33) (v := ?_) (a' := ?_) #[oT,oT,oT,oT,oT,oT,oT,oT,oT,oT,oT,oT,oT,oT,oT,oT,oF,oT,oT,oT,oF,oF,oF,oF,oF,oF,oF] rfl rfl (take_ofW HT_.out HW_.out (by kernel_rfl)) (fun _ _ _ h => h) (Or.inl ⟨by rfl, ?_⟩) hHeld ?_ ?_
           rotate_left
           ·rintro w' ⟨s0, s1, s2, s3, s4, s5, s6, s7, s8, s9, s10, s11, s12, s13, s14, s15, s16, s17, s18, s19, s20, s21, s22⟩
            go_simp
            with_reducible rfl
           rotate_left
           ·simp only [Act.put, List.setIfInBounds_toArray, List.set_cons_zero, List.set_cons_succ, i64_w, i32_w]
            rfl
           refine pure_s (i := 20) (N := some 35) #[oT,oT,oT,oT,oT,oT,oT,oT,oT,oT,oT,oT,oT,oT,oT,oT,oF,oT,oT,oT,oT,oF,oF,oF,oF,oF,oF] (any_of HT_.out (by kernel_rfl)) (h := ?_)
           refine pure_s (i := 21) (N := some 36) #[oT,oT,oT,oT,oT,oT,oT,oT,oT,oT,oT,oT,oT,oT,oT,oT,oF,oT,oT,oT,oT,oT,oF,oF,oF,oF,oF] (any_of HT_.out (by kernel_rfl)) (h := ?_)
           refine take_ (i := 22) (N := some 37) (v := ?_) (a' := ?_) #[oT,oT,oT,oT,oT,oT,oT,oT,oT,oT,oT,oT,oT,oT,oT,oT,oF,oT,oT,oT,oT,oT,oT,oF,oF,oF,oF] rfl rfl (take_ofW HT_.out HW_.out (by kernel_rfl)) (fun _ _ _ h => h) (Or.inl ⟨by rfl, ?_⟩) hHeld ?_ ?_
           rotate_left
           ·rintro w' ⟨s0, s1, s2, s3, s4, s5, s6, s7, s8, s9, s10, s11, s12, s13, s14, s15, s16, s17, s18, s19, s20, s21, s22⟩
            go_simp
            with_reducible rfl
           rotate_left
           ·simp only [Act.put, List.setIfInBounds_toArray, List.set_cons_zero, List.set_cons_succ, i64_w, i32_w]
            rfl
           refine one_ (i := 16) (N := some 31) (bs 27 23) rfl rfl (one_of HT_.out (by kernel_rfl)) (by decide) (fun K hK => ?_)
           refine goes_ Try.func40 (by kernel_rfl) rfl #[.agg #[.int .i64 ((rd_T38 l0_4 x4_1).f3.f0), .int .i64 ((rd_T38 l0_4 x4_1).f3.f1), .int .i64 ((rd_T38 l0_4 x4_1).f3.f2)]] (by rfl) rfl rfl (by (try simp only [List.map_toArray, List.map_cons, List.map_nil]); first | done | rfl | (simp only [List.length_drop, List.length_take]; rfl)) ?_
           with_reducible refine (spec_VecTop.calls ((rd_T38 l0_4 x4_1).f3.f0) ((rd_T38 l0_4 x4_1).f3.f1) ((rd_T38 l0_4 x4_1).f3.f2) t172 _ A14.out).mono ?_
           rintro e w25 ⟨rfl, hb⟩
           refine ⟨_, rfl, ?_⟩
           have n0_ := Aside0.mk (blk_below (g := gb167) (o := .cells #[.int .i64 a0_0, .int .i64 a0_1, .int .i64 a0_2, .int .i64 a0_3, .slice (some ad170) l0_4.length c0_4] 32 (0, 0)) (by (with_reducible repeat (first | refine blk_drewN ?_ _ | refine blk_drew ?_ | refine blk_alloc ?_ _)); exact BK167.out) hb)
           have n1_ := Aside0.mk (below_step (by repeat (first | (with_reducible first | exact HB.out | apply below_alloc | apply pw_below_drewN | apply below_drew1 | refine below_set ?_ GE167.out) | exact HB.out)) hb)
           clear BK167
           clear HB
           have BK167 := n0_
           have HB := n1_
           clear n0_ n1_
           (try clear hb)
           (try clear hb2)
           (try clear hk)
           (try clear hi)
           refine hK.out _ _ ⟨(blk_cell BK167.out 0).trans rfl, (blk_cell BK167.out 1).trans rfl, (blk_cell BK167.out 2).trans rfl, (blk_cell BK167.out 3).trans rfl, (blk_cell BK167.out 4).trans rfl, ((HB.out.cell (World.block_lt_of_cell? w _ hw170_0)).trans hw170_0), ((HB.out.cell (World.block_lt_of_cell? w _ hw170_1)).trans hw170_1), ((HB.out.cell (World.block_lt_of_cell? w _ hw170_2)).trans hw170_2), ((HB.out.cell (World.block_lt_of_cell? w _ hw170_3)).trans hw170_3), ((HB.out.cell (World.block_lt_of_cell? w _ hw170_4)).trans hw170_4), ((HB.out.cell (World.block_lt_of_cell? w _ hw170_5)).trans hw170_5), ((HB.out.cell (World.block_lt_of_cell? w _ hw171_0)).trans hw171_0), ((HB.out.cell (World.block_lt_of_cell? w _ hw171_1)).trans hw171_1), ((HB.out.cell (World.block_lt_of_cell? w _ hw171_2)).trans hw171_2), ((HB.out.cell (World.block_lt_of_cell? w _ hw171_3)).trans hw171_3), ((HB.out.cell (World.block_lt_of_cell? w _ hw171_4)).trans hw171_4), ((HB.out.cell (World.block_lt_of_cell? w _ hw171_5)).trans hw171_5), ((HB.out.cell (World.block_lt_of_cell? w _ hw173_0)).trans hw173_0), ((HB.out.cell (World.block_lt_of_cell? w _ hw173_1)).trans hw173_1), ((HB.out.cell (World.block_lt_of_cell? w _ hw173_2)).trans hw173_2), ((HB.out.cell (World.block_lt_of_cell? w _ hw173_3)).trans hw173_3), ((HB.out.cell (World.block_lt_of_cell? w _ hw173_4)).trans hw173_4), ((HB.out.cell (World.block_lt_of_cell? w _ hw173_5)).trans hw173_5)⟩ (fun hHeld => ?_)
           clear hK K
           refine norm_ (a' := ?_) ?_ ?_
           rotate_left
           ·show Act.put _ (some 31) _ = _
            simp only [Act.put, List.setIfInBounds_toArray, List.set_cons_zero, List.set_cons_succ, i64_w, i32_w]
            rfl
           refine one_ (i := 23) (N := some 38) (bs 27 24) rfl rfl (one_of HT_.out (by kernel_rfl)) (by decide) (fun K hK => ?_)
           refine goes_ Try.func40 (by kernel_rfl) rfl #[.agg #[.int .i64 ((rd_T38 l0_4 x3_1).f3.f0), .int .i64 ((rd_T38 l0_4 x3_1).f3.f1), .int .i64 ((rd_T38 l0_4 x3_1).f3.f2)]] (by rfl) rfl rfl (by (try simp only [List.map_toArray, List.map_cons, List.map_nil]); first | done | rfl | (simp only [List.length_drop, List.length_take]; rfl)) ?_
           with_reducible refine (spec_VecTop.calls ((rd_T38 l0_4 x3_1).f3.f0) ((rd_T38 l0_4 x3_1).f3.f1) ((rd_T38 l0_4 x3_1).f3.f2) t174 _ A17.out).mono ?_
           rintro e w26 ⟨rfl, hb⟩
           refine ⟨_, rfl, ?_⟩
           have n0_ := Aside0.mk (blk_below (g := gb167) (o := .cells #[.int .i64 a0_0, .int .i64 a0_1, .int .i64 a0_2, .int .i64 a0_3, .slice (some ad170) l0_4.length c0_4] 32 (0, 0)) (by (with_reducible repeat (first | refine blk_drewN ?_ _ | refine blk_drew ?_ | refine blk_alloc ?_ _)); exact BK167.out) hb)
           have n1_ := Aside0.mk (below_step (by repeat (first | (with_reducible first | exact HB.out | apply below_alloc | apply pw_below_drewN | apply below_drew1 | refine below_set ?_ GE167.out) | exact HB.out)) hb)
           clear BK167
           clear HB
           have BK167 := n0_
           have HB := n1_
           clear n0_ n1_
           (try clear hb)
           (try clear hb2)
           (try clear hk)
           (try clear hi)
           refine hK.out _ _ ⟨(blk_cell BK167.out 0).trans rfl, (blk_cell BK167.out 1).trans rfl, (blk_cell BK167.out 2).trans rfl, (blk_cell BK167.out 3).trans rfl, (blk_cell BK167.out 4).trans rfl, ((HB.out.cell (World.block_lt_of_cell? w _ hw170_0)).trans hw170_0), ((HB.out.cell (World.block_lt_of_cell? w _ hw170_1)).trans hw170_1), ((HB.out.cell (World.block_lt_of_cell? w _ hw170_2)).trans hw170_2), ((HB.out.cell (World.block_lt_of_cell? w _ hw170_3)).trans hw170_3), ((HB.out.cell (World.block_lt_of_cell? w _ hw170_4)).trans hw170_4), ((HB.out.cell (World.block_lt_of_cell? w _ hw170_5)).trans hw170_5), ((HB.out.cell (World.block_lt_of_cell? w _ hw171_0)).trans hw171_0), ((HB.out.cell (World.block_lt_of_cell? w _ hw171_1)).trans hw171_1), ((HB.out.cell (World.block_lt_of_cell? w _ hw171_2)).trans hw171_2), ((HB.out.cell (World.block_lt_of_cell? w _ hw171_3)).trans hw171_3), ((HB.out.cell (World.block_lt_of_cell? w _ hw171_4)).trans hw171_4), ((HB.out.cell (World.block_lt_of_cell? w _ hw171_5)).trans hw171_5), ((HB.out.cell (World.block_lt_of_cell? w _ hw173_0)).trans hw173_0), ((HB.out.cell (World.block_lt_of_cell? w _ hw173_1)).trans hw173_1), ((HB.out.cell (World.block_lt_of_cell? w _ hw173_2)).trans hw173_2), ((HB.out.cell (World.block_lt_of_cell? w _ hw173_3)).trans hw173_3), ((HB.out.cell (World.block_lt_of_cell? w _ hw173_4)).trans hw173_4), ((HB.out.cell (World.block_lt_of_cell? w _ hw173_5)).trans hw173_5)⟩ (fun hHeld => ?_)
           clear hK K
           refine norm_ (a' := ?_) ?_ ?_
           rotate_left
           ·show Act.put _ (some 38) _ = _
            simp only [Act.put, List.setIfInBounds_toArray, List.set_cons_zero, List.set_cons_succ, i64_w, i32_w]
            rfl
           refine pure_s (i := 24) (N := some 39) (bs 27 25) (any_of HT_.out (by kernel_rfl)) (h := ?_)
           refine pure_s (i := 25) (N := some 40) (bs 27 26) (any_of HT_.out (by kernel_rfl)) (h := ?_)
           refine pure_s (i := 26) (N := some 41) (bs 27 27) (any_of HT_.out (by kernel_rfl)) (h := ?_)
           refine done_ (done_of HT_.out (by kernel_rfl)) ?_
           try go_wp2
           go_roundg k1
           case measure => have := HK1.out; omega
           case rel => exact ⟨(x3_1), (wrap64 (x4_1 + 1)), (by first | rfl | (simp; done) | (simp [*]; done)), (by first | rfl | (simp; done) | (simp [*]; done)), H', ⟨by have := HK1.out; omega⟩, ⟨by (with_reducible repeat (first | refine blk_drewN ?_ _ | refine blk_drew ?_ | refine blk_alloc ?_ _)); exact BK167.out⟩, ⟨by repeat (first | (with_reducible first | exact HB.out | apply below_alloc | apply pw_below_drewN | apply below_drew1 | refine below_set ?_ GE167.out) | exact HB.out)⟩⟩
         ·rw [if_neg c16] at H
          exact absurd H (by simp)
        ·rw [if_neg c15] at H
         exact absurd H (by simp)
      ·replace c10 := Bool.eq_false_iff.mpr c10
       subst c10
       have H1 : (spec_FairPick.l0 k1 x3_1 (wrap64 (x4_1 + 1)) a0_0 a0_1 a0_2 a0_3 l0_4) = some r := by rw [if_neg (show ¬ (false = true) by decide)] at H; exact H
       clear H
       have H := H1
       clear H1
       have H' := Aside0.mk H
       clear H
       have hcz27_0 : wr.cell? ⟨gb167, 0, none⟩ = some (.int .i64 a0_0) := (blk_cell BK167.out 0).trans rfl
       have hcz27_1 : wr.cell? ⟨gb167, 1, none⟩ = some (.int .i64 a0_1) := (blk_cell BK167.out 1).trans rfl
       have hcz27_2 : wr.cell? ⟨gb167, 2, none⟩ = some (.int .i64 a0_2) := (blk_cell BK167.out 2).trans rfl
       have hcz27_3 : wr.cell? ⟨gb167, 3, none⟩ = some (.int .i64 a0_3) := (blk_cell BK167.out 3).trans rfl
       have hcz27_4 : wr.cell? ⟨gb167, 4, none⟩ = some (.slice A0_4 l0_4.length c0_4) := (blk_cell BK167.out 4).trans rfl
       have hfz27_0 := blk_frozen BK167.out 0
       have hfz27_1 := blk_frozen BK167.out 1
       have hfz27_2 := blk_frozen BK167.out 2
       have hfz27_3 := blk_frozen BK167.out 3
       have hfz27_4 := blk_frozen BK167.out 4
       try go_wp2
       have n0_ := Aside0.mk (blk_drew BK167.out)
       have n1_ := Aside0.mk (below_drew1 HB.out)
       clear BK167
       clear HB
       have BK167 := n0_
       have HB := n1_
       clear n0_ n1_
       have p170 : 0 ≤ (x4_1 : Int) := of_decide_eq_true (by first | (with_reducible assumption) | assumption)
       have q170 : x4_1 < (l0_4.length : Int) := of_decide_eq_true (by first | (with_reducible assumption) | assumption)
       obtain ⟨ad170, e170, hx170_0, hx170_1, hx170_2, hx170_3, hx170_4, hx170_5⟩ := at_T38 HR0_4.out x4_1 p170 q170
       have hw170_5 := hx170_5
       have hw170_4 := hx170_4
       have hw170_3 := hx170_3
       have hw170_2 := hx170_2
       have hw170_1 := hx170_1
       have hw170_0 := hx170_0
       (try rw [← Nbq9.out] at hx170_2)
       (try rw [← Nbq9.out] at hw170_2)
       cases e170
       replace hx170_0 := (HB.out.cell (World.block_lt_of_cell? w _ hx170_0)).trans hx170_0
       replace hx170_1 := (HB.out.cell (World.block_lt_of_cell? w _ hx170_1)).trans hx170_1
       replace hx170_2 := (HB.out.cell (World.block_lt_of_cell? w _ hx170_2)).trans hx170_2
       replace hx170_3 := (HB.out.cell (World.block_lt_of_cell? w _ hx170_3)).trans hx170_3
       replace hx170_4 := (HB.out.cell (World.block_lt_of_cell? w _ hx170_4)).trans hx170_4
       replace hx170_5 := (HB.out.cell (World.block_lt_of_cell? w _ hx170_5)).trans hx170_5
       replace p170 := eq_true p170
       replace q170 := eq_true q170
       refine start_ (n := 27) (S := fun w' => w'.cell? ⟨gb167, 0, none⟩ = some (.int .i64 a0_0) ∧ w'.cell? ⟨gb167, 1, none⟩ = some (.int .i64 a0_1) ∧ w'.cell? ⟨gb167, 2, none⟩ = some (.int .i64 a0_2) ∧ w'.cell? ⟨gb167, 3, none⟩ = some (.int .i64 a0_3) ∧ w'.cell? ⟨gb167, 4, none⟩ = some (.slice (some ad170) l0_4.length c0_4) ∧ w'.cell? (ad170.add ((x4_1).toNat * 6)) = some (.int .i64 ((rd_T38 l0_4 x4_1).f0)) ∧ w'.cell? ⟨(ad170.add ((x4_1).toNat * 6)).block, (ad170.add ((x4_1).toNat * 6)).off + 1, none⟩ = some (.int .i64 ((rd_T38 l0_4 x4_1).f1)) ∧ w'.cell? ⟨(ad170.add ((x4_1).toNat * 6)).block, (ad170.add ((x4_1).toNat * 6)).off + 2, none⟩ = some (.bool false) ∧ w'.cell? ⟨(ad170.add ((x4_1).toNat * 6)).block, (ad170.add ((x4_1).toNat * 6)).off + 3, none⟩ = some (.int .i64 ((rd_T38 l0_4 x4_1).f3.f0)) ∧ w'.cell? ⟨(ad170.add ((x4_1).toNat * 6)).block, (ad170.add ((x4_1).toNat * 6)).off + 4, none⟩ = some (.int .i64 ((rd_T38 l0_4 x4_1).f3.f1)) ∧ w'.cell? ⟨(ad170.add ((x4_1).toNat * 6)).block, (ad170.add ((x4_1).toNat * 6)).off + 5, none⟩ = some (.int .i64 ((rd_T38 l0_4 x4_1).f3.f2))) (ds := []) (bs 27 0) (by kernel_rfl) rfl rfl ⟨(blk_cell BK167.out 0).trans rfl, (blk_cell BK167.out 1).trans rfl, (blk_cell BK167.out 2).trans rfl, (blk_cell BK167.out 3).trans rfl, (blk_cell BK167.out 4).trans rfl, ((HB.out.cell (World.block_lt_of_cell? w _ hw170_0)).trans hw170_0), ((HB.out.cell (World.block_lt_of_cell? w _ hw170_1)).trans hw170_1), ((HB.out.cell (World.block_lt_of_cell? w _ hw170_2)).trans hw170_2), ((HB.out.cell (World.block_lt_of_cell? w _ hw170_3)).trans hw170_3), ((HB.out.cell (World.block_lt_of_cell? w _ hw170_4)).trans hw170_4), ((HB.out.cell (World.block_lt_of_cell? w _ hw170_5)).trans hw170_5)⟩ (fun hHeld => ?_); refine with_tabW spec_FairPick.tab7 spec_FairPick.bits7 (fun HT_ HW_ => ?_)
       generalize wr.drew = w28 at BK167 HB hx170_0 hx170_1 hx170_2 hx170_3 hx170_4 hx170_5 hHeld ⊢
       refine pure_s (i := 0) (N := some 15) (bs 27 1) (any_of HT_.out (by kernel_rfl)) (h := ?_)
       refine pure_s (i := 2) (N := some 17) #[oT,oF,oT,oF,oF,oF,oF,oF,oF,oF,oF,oF,oF,oF,oF,oF,oF,oF,oF,oF,oF,oF,oF,oF,oF,oF,oF] (any_of HT_.out (by kernel_rfl)) (h := ?_)
       refine take_ (i := 1) (N := some 16) (v := ?_) (a' := ?_) (bs 27 3) rfl rfl (take_ofW HT_.out HW_.out (by kernel_rfl)) (fun _ _ _ h => h) (Or.inl ⟨by rfl, ?_⟩) hHeld ?_ ?_
       rotate_left
       ·rintro w' ⟨s0, s1, s2, s3, s4, s5, s6, s7, s8, s9, s10⟩
        go_simp
        with_reducible rfl
       rotate_left
       ·simp only [Act.put, List.setIfInBounds_toArray, List.set_cons_zero, List.set_cons_succ, i64_w, i32_w]
        rfl
       refine pure_s (i := 3) (N := some 18) (bs 27 4) (any_of HT_.out (by kernel_rfl)) (h := ?_)
       refine pure_s (i := 4) (N := some 19) (bs 27 5) (any_of HT_.out (by kernel_rfl)) (h := ?_)
       refine take_ (i := 5) (N := some 20) (v := ?_) (a' := ?_) (bs 27 6) rfl rfl (take_ofW HT_.out HW_.out (by kernel_rfl)) (fun _ _ _ h => h) (Or.inl ⟨by rfl, ?_⟩) hHeld ?_ ?_
       rotate_left
       ·rintro w' ⟨s0, s1, s2, s3, s4, s5, s6, s7, s8, s9, s10⟩
        go_simp
        with_reducible rfl
       rotate_left
       ·simp only [Act.put, List.setIfInBounds_toArray, List.set_cons_zero, List.set_cons_succ, i64_w, i32_w]
        rfl
       refine pure_s (i := 6) (N := some 21) (bs 27 7) (any_of HT_.out (by kernel_rfl)) (h := ?_)
       refine pure_u (i := 7) (N := some 22) (bs 27 8) (any_of HT_.out (by kernel_rfl)) (h := ?_)
       refine pure_u (i := 8) (N := some 23) (bs 27 9) (any_of HT_.out (by kernel_rfl)) (h := ?_)
       refine pure_u (i := 9) (N := some 24) (bs 27 10) (any_of HT_.out (by kernel_rfl)) (h := ?_)
       refine pure_u (i := 10) (N := some 25) (bs 27 11) (any_of HT_.out (by kernel_rfl)) (h := ?_)
       refine pure_u (i := 11) (N := some 26) (bs 27 12) (any_of HT_.out (by kernel_rfl)) (h := ?_)
       refine pure_u (i := 12) (N := some 27) (bs 27 13) (any_of HT_.out (by kernel_rfl)) (h := ?_)
       refine pure_u (i := 13) (N := some 28) (bs 27 14) (any_of HT_.out (by kernel_rfl)) (h := ?_)
       refine pure_u (i := 14) (N := some 29) (bs 27 15) (any_of HT_.out (by kernel_rfl)) (h := ?_)
       refine pure_u (i := 15) (N := some 30) (bs 27 16) (any_of HT_.out (by kernel_rfl)) (h := ?_)
       refine pure_u (i := 16) (N := some 31) (bs 27 17) (any_of HT_.out (by kernel_rfl)) (h := ?_)
       refine pure_u (i := 17) (N := some 32) (bs 27 18) (any_of HT_.out (by kernel_rfl)) (h := ?_)
       refine pure_u (i := 18) (N := some 33) (bs 27 19) (any_of HT_.out (by kernel_rfl)) (h := ?_)
       refine pure_u (i := 19) (N := some 34) (bs 27 20) (any_of HT_.out (by kernel_rfl)) (h := ?_)
       refine pure_u (i := 20) (N := some 35) (bs 27 21) (any_of HT_.out (by kernel_rfl)) (h := ?_)
       refine pure_u (i := 21) (N := some 36) (bs 27 22) (any_of HT_.out (by kernel_rfl)) (h := ?_)
       refine pure_u (i := 22) (N := some 37) (bs 27 23) (any_of HT_.out (by kernel_rfl)) (h := ?_)
       refine pure_u (i := 23) (N := some 38) (bs 27 24) (any_of HT_.out (by kernel_rfl)) (h := ?_)
       refine pure_u (i := 24) (N := some 39) (bs 27 25) (any_of HT_.out (by kernel_rfl)) (h := ?_)
       refine pure_u (i := 25) (N := some 40) (bs 27 26) (any_of HT_.out (by kernel_rfl)) (h := ?_)
       refine pure_s (i := 26) (N := some 41) (bs 27 27) (any_of HT_.out (by kernel_rfl)) (h := ?_)
       refine done_ (done_of HT_.out (by kernel_rfl)) ?_
       try go_wp2
       go_roundg k1
       case measure => have := HK1.out; omega
       case rel => exact ⟨(x3_1), (wrap64 (x4_1 + 1)), (by first | rfl | (simp; done) | (simp [*]; done)), (by first | rfl | (simp; done) | (simp [*]; done)), H', ⟨by have := HK1.out; omega⟩, ⟨by (with_reducible repeat (first | refine blk_drewN ?_ _ | refine blk_drew ?_ | refine blk_alloc ?_ _)); exact BK167.out⟩, ⟨by repeat (first | (with_reducible first | exact HB.out | apply below_alloc | apply pw_below_drewN | apply below_drew1 | refine below_set ?_ GE167.out) | exact HB.out)⟩⟩
     ·rw [if_neg c8] at H
      exact absurd H (by simp)
    ·rw [if_neg c7] at H
     have c7b0 : decide (x4_1 < (l0_4.length : Int)) = false := decide_eq_false c7
     clear c7
     by_cases c29 : x3_1 < 0
     ·rw [if_pos c29] at H
      have c29b0 : decide (x3_1 < 0) = true := decide_eq_true c29
      clear c29
      obtain rfl := Option.some.inj H
      have hcz30_0 : wr.cell? ⟨gb167, 0, none⟩ = some (.int .i64 a0_0) := (blk_cell BK167.out 0).trans rfl
      have hcz30_1 : wr.cell? ⟨gb167, 1, none⟩ = some (.int .i64 a0_1) := (blk_cell BK167.out 1).trans rfl
      have hcz30_2 : wr.cell? ⟨gb167, 2, none⟩ = some (.int .i64 a0_2) := (blk_cell BK167.out 2).trans rfl
      have hcz30_3 : wr.cell? ⟨gb167, 3, none⟩ = some (.int .i64 a0_3) := (blk_cell BK167.out 3).trans rfl
      have hcz30_4 : wr.cell? ⟨gb167, 4, none⟩ = some (.slice A0_4 l0_4.length c0_4) := (blk_cell BK167.out 4).trans rfl
      have hfz30_0 := blk_frozen BK167.out 0
      have hfz30_1 := blk_frozen BK167.out 1
      have hfz30_2 := blk_frozen BK167.out 2
      have hfz30_3 := blk_frozen BK167.out 3
      have hfz30_4 := blk_frozen BK167.out 4
      go_wp2
      go_ret
      exact ⟨by first | rfl | (simp [errW_none, errW_some] <;> rfl) | (simp [*, errW_none, errW_some] <;> rfl), by repeat (first | (with_reducible first | exact HB.out | apply below_alloc | apply pw_below_drewN | apply below_drew1 | refine below_set ?_ GE167.out) | exact HB.out)⟩
     ·rw [if_neg c29] at H
      have c29b0 : decide (x3_1 < 0) = false := decide_eq_false c29
      clear c29
      by_cases c31 : 0 ≤ x3_1
      ·rw [if_pos c31] at H
       have c31b0 : decide (0 ≤ x3_1) = true := decide_eq_true c31
       clear c31
       by_cases c32 : x3_1 < (l0_4.length : Int)
       ·rw [if_pos c32] at H
        have c32b0 : decide (x3_1 < (l0_4.length : Int)) = true := decide_eq_true c32
        clear c32
        obtain rfl := Option.some.inj H
        have hcz33_0 : wr.cell? ⟨gb167, 0, none⟩ = some (.int .i64 a0_0) := (blk_cell BK167.out 0).trans rfl
        have hcz33_1 : wr.cell? ⟨gb167, 1, none⟩ = some (.int .i64 a0_1) := (blk_cell BK167.out 1).trans rfl
        have hcz33_2 : wr.cell? ⟨gb167, 2, none⟩ = some (.int .i64 a0_2) := (blk_cell BK167.out 2).trans rfl
        have hcz33_3 : wr.cell? ⟨gb167, 3, none⟩ = some (.int .i64 a0_3) := (blk_cell BK167.out 3).trans rfl
        have hcz33_4 : wr.cell? ⟨gb167, 4, none⟩ = some (.slice A0_4 l0_4.length c0_4) := (blk_cell BK167.out 4).trans rfl
        have hfz33_0 := blk_frozen BK167.out 0
        have hfz33_1 := blk_frozen BK167.out 1
        have hfz33_2 := blk_frozen BK167.out 2
        have hfz33_3 := blk_frozen BK167.out 3
        have hfz33_4 := blk_frozen BK167.out 4
        have p169 : 0 ≤ (x3_1 : Int) := of_decide_eq_true (by first | (with_reducible assumption) | assumption)
        have q169 : x3_1 < (l0_4.length : Int) := of_decide_eq_true (by first | (with_reducible assumption) | assumption)
        obtain ⟨ad169, e169, hx169_0, hx169_1, hx169_2, hx169_3, hx169_4, hx169_5⟩ := at_T38 HR0_4.out x3_1 p169 q169
        cases e169
        replace hx169_0 := (HB.out.cell (World.block_lt_of_cell? w _ hx169_0)).trans hx169_0
        replace hx169_1 := (HB.out.cell (World.block_lt_of_cell? w _ hx169_1)).trans hx169_1
        replace hx169_2 := (HB.out.cell (World.block_lt_of_cell? w _ hx169_2)).trans hx169_2
        replace hx169_3 := (HB.out.cell (World.block_lt_of_cell? w _ hx169_3)).trans hx169_3
        replace hx169_4 := (HB.out.cell (World.block_lt_of_cell? w _ hx169_4)).trans hx169_4
        replace hx169_5 := (HB.out.cell (World.block_lt_of_cell? w _ hx169_5)).trans hx169_5
        replace p169 := eq_true p169
        replace q169 := eq_true q169
        go_wp2
        go_ret
        exact ⟨by first | rfl | (simp [errW_none, errW_some] <;> rfl) | (simp [*, errW_none, errW_some] <;> rfl), by repeat (first | (with_reducible first | exact HB.out | apply below_alloc | apply pw_below_drewN | apply below_drew1 | refine below_set ?_ GE167.out) | exact HB.out)⟩
       ·rw [if_neg c32] at H
        exact absurd H (by simp)
      ·rw [if_neg c31] at H
       exact absurd H (by simp)
 ·replace c3 := Bool.eq_false_iff.mpr c3
  subst c3
  have H1 : (some (-1)) = some r := by rw [if_neg (show ¬ (false = true) by decide)] at H; exact H
  clear H
  have H := H1
  clear H1
  obtain rfl := Option.some.inj H
  go_enter Try.func20, Try.ntmps20
  go_wp2_with (first | ((with_reducible refine gate_dst (N := 1) rfl ?_); refine box_event ?hg (N := 1) ?hd (cs := #[.int .i64 a0_0, .int .i64 a0_1, .int .i64 a0_2, .int .i64 a0_3, .slice A0_4 l0_4.length c0_4]) (t := 32) ?hr ?_; (case hd => rfl); (case hg => rfl); (case hr => first | (go_simp; done) | (go_simp; rfl)); intro gb167 hg w34 hbox hb; have n0_ := Aside0.mk (below_step (by repeat (first | (with_reducible first | exact HB.out | apply below_alloc | apply pw_below_drewN | apply below_drew1) | exact HB.out)) hb); have n1_ := Aside0.mk (hbox); have n2_ := Aside0.mk ((by rw [hg]; exact (below_size (by repeat (first | (with_reducible first | exact HB.out | apply below_alloc | apply pw_below_drewN | apply below_drew1) | exact HB.out))) : w.heap.size ≤ gb167)); have n3_ := Aside0.mk ((by rw [hg]; exact (below_size (by repeat (first | (with_reducible first | exact HB.out | apply below_alloc | apply pw_below_drewN | apply below_drew1) | exact HB.out))) : w.heap.size ≤ gb167)); clear HB; have HB := n0_; have BK167 := n1_; have GW167 := n2_; have GE167 := n3_; clear n0_ n1_ n2_ n3_; clear hb hbox hg; have hcz35_0 : w34.cell? ⟨gb167, 0, none⟩ = some (.int .i64 a0_0) := (blk_cell BK167.out 0).trans rfl; have hcz35_1 : w34.cell? ⟨gb167, 1, none⟩ = some (.int .i64 a0_1) := (blk_cell BK167.out 1).trans rfl; have hcz35_2 : w34.cell? ⟨gb167, 2, none⟩ = some (.int .i64 a0_2) := (blk_cell BK167.out 2).trans rfl; have hcz35_3 : w34.cell? ⟨gb167, 3, none⟩ = some (.int .i64 a0_3) := (blk_cell BK167.out 3).trans rfl; have hcz35_4 : w34.cell? ⟨gb167, 4, none⟩ = some (.slice A0_4 l0_4.length c0_4) := (blk_cell BK167.out 4).trans rfl; have hfz35_0 := blk_frozen BK167.out 0; have hfz35_1 := blk_frozen BK167.out 1; have hfz35_2 := blk_frozen BK167.out 2; have hfz35_3 := blk_frozen BK167.out 3; have hfz35_4 := blk_frozen BK167.out 4) | ((with_reducible refine gate_callee (f := 16) rfl ?_); refine goesL_ (some 6) rfl rfl Try.func16 (by kernel_rfl) rfl #[.agg #[.int .i64 a0_0, .int .i64 a0_1, .int .i64 a0_2, .int .i64 a0_3, .slice A0_4 l0_4.length c0_4]] rfl (by (try simp only [List.map_toArray, List.map_cons, List.map_nil]); first | done | rfl | (simp only [List.length_drop, List.length_take]; rfl)) ?_; (with_reducible refine (spec_FairOk.calls k a0_0 a0_1 a0_2 a0_3 _ _ l0_4 false _ ?side1 ?side2 A2.out).mono ?_); (case side1 => repeat (first | exact (Kd.C_below HR0_4.out HB.out) | (with_reducible refine Kd.C_alloc ?_ _) | (with_reducible refine Kd.C_drewN ?_ _) | (with_reducible refine Kd.C_drew ?_))); (case side2 => exact HC0_4.out); rintro e w36 ⟨rfl, hb⟩; refine ⟨_, rfl, ?_⟩; have n0_ := Aside0.mk (blk_below (g := gb167) (o := .cells #[.int .i64 a0_0, .int .i64 a0_1, .int .i64 a0_2, .int .i64 a0_3, .slice A0_4 l0_4.length c0_4] 32 (0, 0)) (by (with_reducible repeat (first | refine blk_drewN ?_ _ | refine blk_drew ?_ | refine blk_alloc ?_ _)); exact BK167.out) hb); have n1_ := Aside0.mk (below_step (by repeat (first | (with_reducible first | exact HB.out | apply below_alloc | apply pw_below_drewN | apply below_drew1 | refine below_set ?_ GE167.out) | exact HB.out)) hb); clear BK167; clear HB; have BK167 := n0_; have HB := n1_; clear n0_ n1_; (try clear hb); (try clear hb2); (try clear hk); (try clear hi)))
  go_ret
  exact ⟨by first | rfl | (simp [errW_none, errW_some] <;> rfl) | (simp [*, errW_none, errW_some] <;> rfl), by repeat (first | (with_reducible first | exact HB.out | apply below_alloc | apply pw_below_drewN | apply below_drew1 | refine below_set ?_ GE167.out) | exact HB.out)⟩

/-! ### impl_VecTop: function 52 -/
def impl_VecTop.f (a0_0 : Int) (a0_1 : Int) (a0_2 : Int) : Option (Int) := some (mx (mx a0_0 a0_1) a0_2)
set_option maxHeartbeats 8000000 in
set_option maxRecDepth 100000 in
theorem impl_VecTop.calls (a0_0 : Int) (a0_1 : Int) (a0_2 : Int) (r : Int) (w : World) (h : impl_VecTop.f a0_0 a0_1 a0_2 = some r) :
  Calls Try.prog 52 #[.agg #[.int .i64 a0_0, .int .i64 a0_1, .int .i64 a0_2]] w fun e w' => e = .returned (.int .i64 r) ∧ Below w.heap.size w w' := by
 have hu29 := Try.underlying29
 have HB := Aside0.mk (Below.refl w.heap.size w)
 have H : (some (mx (mx a0_0 a0_1) a0_2)) = some r := h
 clear h
 obtain ⟨ji2, hji2⟩ : ∃ j_ : Int, (mx a0_0 a0_1) = j_ := ⟨_, rfl⟩
 replace H : (some (mx (ji2) a0_2)) = some r := by first | (rw [hji2] at H; exact H) | (simp only [hji2] at H ⊢; exact H)
 have hji2_ : (if a0_0 < a0_1 then a0_1 else a0_0) = ji2 := hji2
 obtain ⟨ji3, hji3⟩ : ∃ j_ : Int, (mx (ji2) a0_2) = j_ := ⟨_, rfl⟩
 replace H : (some ji3) = some r := by first | (rw [hji3] at H; exact H) | (simp only [hji3] at H ⊢; exact H)
 have hji3_ : (if (ji2) < a0_2 then a0_2 else (ji2)) = ji3 := hji3
 obtain rfl := Option.some.inj H
 go_enter Try.func52, Try.ntmps52
 go_wp2_with (first | ((with_reducible refine gate_dst (N := 1) rfl ?_); refine box_event ?hg (N := 1) ?hd (cs := #[.int .i64 a0_0, .int .i64 a0_1, .int .i64 a0_2]) (t := 29) ?hr ?_; (case hd => rfl); (case hg => rfl); (case hr => first | (go_simp; done) | (go_simp; rfl)); intro gb175 hg w4 hbox hb; have n0_ := Aside0.mk (below_step (by repeat (first | (with_reducible first | exact HB.out | apply below_alloc | apply pw_below_drewN | apply below_drew1) | exact HB.out)) hb); have n1_ := Aside0.mk (hbox); have n2_ := Aside0.mk ((by rw [hg]; exact (below_size (by repeat (first | (with_reducible first | exact HB.out | apply below_alloc | apply pw_below_drewN | apply below_drew1) | exact HB.out))) : w.heap.size ≤ gb175)); have n3_ := Aside0.mk ((by rw [hg]; exact (below_size (by repeat (first | (with_reducible first | exact HB.out | apply below_alloc | apply pw_below_drewN | apply below_drew1) | exact HB.out))) : w.heap.size ≤ gb175)); clear HB; have HB := n0_; have BK175 := n1_; have GW175 := n2_; have GE175 := n3_; clear n0_ n1_ n2_ n3_; clear hb hbox hg; have hcz5_0 : w4.cell? ⟨gb175, 0, none⟩ = some (.int .i64 a0_0) := (blk_cell BK175.out 0).trans rfl; have hcz5_1 : w4.cell? ⟨gb175, 1, none⟩ = some (.int .i64 a0_1) := (blk_cell BK175.out 1).trans rfl; have hcz5_2 : w4.cell? ⟨gb175, 2, none⟩ = some (.int .i64 a0_2) := (blk_cell BK175.out 2).trans rfl; have hfz5_0 := blk_frozen BK175.out 0; have hfz5_1 := blk_frozen BK175.out 1; have hfz5_2 := blk_frozen BK175.out 2))
 go_ret
 exact ⟨by first | rfl | (simp [errW_none, errW_some] <;> rfl) | (simp only [← hji2, ← hji3]; first | rfl | (simp [errW_none, errW_some] <;> rfl)) | (simp [*, errW_none, errW_some] <;> rfl), by repeat (first | (with_reducible first | exact HB.out | apply below_alloc | apply pw_below_drewN | apply below_drew1 | refine below_set ?_ GE175.out) | exact HB.out)⟩

/-! ### impl_within: function 96 -/
def impl_within.f (a0 : Int) (a1 : Int) (a2 : Int) : Option (Bool) := if a0 ≥ a1 then (some (decide (a0 ≤ a2))) else (some false)
set_option maxHeartbeats 8000000 in
set_option maxRecDepth 100000 in
theorem impl_within.calls (a0 : Int) (a1 : Int) (a2 : Int) (r : Bool) (w : World) (h : impl_within.f a0 a1 a2 = some r) :
  Calls Try.prog 96 #[.int .i64 a0, .int .i64 a1, .int .i64 a2] w fun e w' => e = .returned (.bool r) ∧ Drawn0 w w' := by
 have H : (if a0 ≥ a1 then (some (decide (a0 ≤ a2))) else (some false)) = some r := h
 clear h
 by_cases c4 : a0 ≥ a1
 ·rw [if_pos c4] at H
  have c4b0 : decide (a1 ≤ a0) = true := decide_eq_true c4
  clear c4
  obtain rfl := Option.some.inj H
  go_enter Try.func96, Try.ntmps96
  go_wp2
  go_ret
  exact ⟨by first | rfl | (simp; done) | (simp [*]; done), by repeat (first | exact Drawn0.refl _ | apply Drawn0.step)⟩
 ·rw [if_neg c4] at H
  have c4b0 : decide (a1 ≤ a0) = false := decide_eq_false c4
  clear c4
  obtain rfl := Option.some.inj H
  go_enter Try.func96, Try.ntmps96
  go_wp2
  go_ret
  exact ⟨by first | rfl | (simp; done) | (simp [*]; done), by repeat (first | exact Drawn0.refl _ | apply Drawn0.step)⟩

end Go.Proofs.Ytljhaoiopokmfaa.PFnExactFairPick
