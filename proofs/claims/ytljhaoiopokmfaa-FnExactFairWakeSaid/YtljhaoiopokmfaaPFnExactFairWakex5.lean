-- printed by a program of this session (wip/printx) out of the translation; Lean checks it
import Derived.Test.YtljhaoiopokmfaaPFnExactFairWakex0
import Derived.Test.YtljhaoiopokmfaaPFnExactFairWakex4
namespace Go.Proofs.Ytljhaoiopokmfaa.PFnExactFairWake
open Go.RowKit Go.Proofs.YtljhaoiopokmfaaW.PrintWords Go.Proofs.YtljhaoiopokmfaaW.PrintLast Go.Proofs.YtljhaoiopokmfaaW.PrintMore
attribute [local go_sem] max2_int min2_int max_two min_two max_three min_three max_four min_four   -- for this text's walks alone
set_option linter.unusedVariables false
set_option linter.unusedSimpArgs false

/-! ### spec_l18At: function 57 -/
def spec_l18At.l0 : Nat → Int → Int → Int → Int → Int → Int → List (S38) → Option (Int)
  | 0, _, _, _, _, _, _, _ => none
  | k + 1, x1, x5, x185000, x185001, x185002, x185003, x185004 => if x5 < (x185004.length : Int) then (if 0 ≤ x5 then (if ((rd_T38 x185004 x5).f0) = x1 then (some x5) else (spec_l18At.l0 k x1 (wrap64 (x5 + 1)) x185000 x185001 x185002 x185003 x185004)) else (none)) else (some (-1))
def spec_l18At.f (k : Nat) (a0_0 : Int) (a0_1 : Int) (a0_2 : Int) (a0_3 : Int) (l0_4 : List (S38)) (a1 : Int) : Option (Int) := spec_l18At.l0 k a1 0 a0_0 a0_1 a0_2 a0_3 l0_4
theorem spec_l18At.mono_l : ∀ k, (∀ y0 y1 y2 y3 y4 y5 y6, LeO (spec_l18At.l0 k y0 y1 y2 y3 y4 y5 y6) (spec_l18At.l0 (k + 1) y0 y1 y2 y3 y4 y5 y6))
 | 0 => fun _ _ _ _ _ _ _ r h => by simp [spec_l18At.l0] at h
 | k + 1 => by
  have ih0 := spec_l18At.mono_l k
  ·intro y0 y1 y2 y3 y4 y5 y6
   unfold spec_l18At.l0
   repeat' first
   | (with_reducible exact ih0 _ _ _ _ _ _ _)
   | (with_reducible exact LeO.refl _)
   | (with_reducible exact LeO.none _)
   | (with_reducible refine LeO.ite ?_ ?_)
   | (with_reducible refine LeO.bind ?_ (fun _ => ?_))
   | exact ih0 _ _ _ _ _ _ _
   | exact LeO.none _
   | refine LeO.ite ?_ ?_
   | refine LeO.bind ?_ (fun _ => ?_)
theorem spec_l18At.mono : ∀ a0 a1 a2 a3 a4 a5 k, LeO (spec_l18At.f k a0 a1 a2 a3 a4 a5) (spec_l18At.f (k + 1) a0 a1 a2 a3 a4 a5) := by
 intro a0 a1 a2 a3 a4 a5 k
 have ih0 := spec_l18At.mono_l k
 unfold spec_l18At.f
 repeat' first
   | (with_reducible exact ih0 _ _ _ _ _ _ _)
   | (with_reducible exact LeO.refl _)
   | (with_reducible exact LeO.none _)
   | (with_reducible refine LeO.ite ?_ ?_)
   | (with_reducible refine LeO.bind ?_ (fun _ => ?_))
   | exact ih0 _ _ _ _ _ _ _
   | exact LeO.none _
   | refine LeO.ite ?_ ?_
   | refine LeO.bind ?_ (fun _ => ?_)
set_option maxHeartbeats 8000000 in
set_option maxRecDepth 100000 in
theorem spec_l18At.calls (k : Nat) (a0_0 : Int) (a0_1 : Int) (a0_2 : Int) (a0_3 : Int) (A0_4 : Option Addr) (c0_4 : Nat) (l0_4 : List (S38)) (a1 : Int) (r : Int) (w : World) (hr0_4 : Kd.C k38 w A0_4 l0_4.length l0_4) (hc0_4 : l0_4.length ≤ c0_4) (h : spec_l18At.f k a0_0 a0_1 a0_2 a0_3 l0_4 a1 = some r) :
  Calls Try.prog 57 #[.agg #[.int .i64 a0_0, .int .i64 a0_1, .int .i64 a0_2, .int .i64 a0_3, .slice A0_4 l0_4.length c0_4], .int .i64 a1] w fun e w' => e = .returned (.int .i64 r) ∧ Below w.heap.size w w' := by
 have hu32 := Try.underlying32
 have HR0_4 := Aside0.mk hr0_4
 have HC0_4 := Aside0.mk hc0_4
 clear hr0_4 hc0_4; have HB := Aside0.mk (Below.refl w.heap.size w)
 have H : (spec_l18At.l0 k a1 0 a0_0 a0_1 a0_2 a0_3 l0_4) = some r := h
 clear h
 have H' := Aside0.mk H
 clear H
 go_enter Try.func57, Try.ntmps57
 go_wp2_with (first | ((with_reducible refine gate_dst (N := 2) rfl ?_); refine box_event ?hg (N := 2) ?hd (cs := #[.int .i64 a0_0, .int .i64 a0_1, .int .i64 a0_2, .int .i64 a0_3, .slice A0_4 l0_4.length c0_4]) (t := 32) ?hr ?_; (case hd => rfl); (case hg => rfl); (case hr => first | (go_simp; done) | (go_simp; rfl)); intro gb184 hg w3 hbox hb; have n0_ := Aside0.mk (below_step (be_ HB) hb); have n1_ := Aside0.mk (hbox); have n2_ := gw_ HB hg; have n3_ := gw_ HB hg; clear HB; have HB := n0_; have BK184 := n1_; have GW184 := n2_; have GE184 := n3_; clear n0_ n1_ n2_ n3_; clear hb hbox hg))
 go_loopg [5] k (fun kq v5 w' => ∃ (x5_1 : Int), v5 = .int .i64 x5_1 ∧ Aside0 (spec_l18At.l0 kq a1 x5_1 a0_0 a0_1 a0_2 a0_3 l0_4 = some r) ∧ Aside0 (kq ≤ k) ∧ Aside0 (w'.heap[gb184]? = some (.cells #[.int .i64 a0_0, .int .i64 a0_1, .int .i64 a0_2, .int .i64 a0_3, (.slice A0_4 l0_4.length c0_4)] 32 (0, 0))) ∧ Aside0 (Below w.heap.size w w'))
 case atStart => exact ⟨(0), (by first | rfl | (simp; done) | (simp [*]; done)), H', ⟨Nat.le_refl _⟩, ⟨bk_ BK184⟩, ⟨bf_ HB⟩⟩
 case round =>
  clear H'
  (try clear p2)
  obtain ⟨x5_1, rfl, HA, HK1, BK184, HB⟩ := hrel
  cases gk with
  | zero => exact absurd HA.out (by simp [spec_l18At.l0])
  | succ k1 =>
   have H := HA.out
   clear HA
   simp only [spec_l18At.l0] at H
   by_cases c4 : x5_1 < (l0_4.length : Int)
   ·rw [if_pos c4] at H
    have c4b0 : decide (x5_1 < (l0_4.length : Int)) = true := decide_eq_true c4
    clear c4
    by_cases c5 : 0 ≤ x5_1
    ·rw [if_pos c5] at H
     have c5b0 : decide (0 ≤ x5_1) = true := decide_eq_true c5
     clear c5
     by_cases c6 : ((rd_T38 l0_4 x5_1).f0) = a1
     ·rw [if_pos c6] at H
      have c6b0 : (((rd_T38 l0_4 x5_1).f0) == a1) = true := beq_iff_eq.mpr c6
      have c6b1 : (((rd_T38 l0_4 x5_1).f0) != a1) = false := bne_eq_false_iff_eq.mpr c6
      clear c6
      obtain rfl := Option.some.inj H
      have hcz7_0 := bc_ BK184 0 (.int .i64 a0_0) rfl; have hcz7_1 := bc_ BK184 1 (.int .i64 a0_1) rfl; have hcz7_2 := bc_ BK184 2 (.int .i64 a0_2) rfl; have hcz7_3 := bc_ BK184 3 (.int .i64 a0_3) rfl; have hcz7_4 := bc_ BK184 4 (.slice A0_4 l0_4.length c0_4) rfl; have hfz7_0 := blk_frozen BK184.out 0; have hfz7_1 := blk_frozen BK184.out 1; have hfz7_2 := blk_frozen BK184.out 2; have hfz7_3 := blk_frozen BK184.out 3; have hfz7_4 := blk_frozen BK184.out 4
      have p185 : 0 ≤ (x5_1 : Int) := of_decide_eq_true (by first | (with_reducible assumption) | assumption)
      have q185 : x5_1 < (l0_4.length : Int) := of_decide_eq_true (by first | (with_reducible assumption) | assumption)
      obtain ⟨ad185, e185, hx185_0, hx185_1, hx185_2, hx185_3, hx185_4, hx185_5⟩ := at_T38 HR0_4.out x5_1 p185 q185
      cases e185
      replace hx185_0 := (HB.out.cell (World.block_lt_of_cell? w _ hx185_0)).trans hx185_0
      replace hx185_1 := (HB.out.cell (World.block_lt_of_cell? w _ hx185_1)).trans hx185_1
      replace hx185_2 := (HB.out.cell (World.block_lt_of_cell? w _ hx185_2)).trans hx185_2
      replace hx185_3 := (HB.out.cell (World.block_lt_of_cell? w _ hx185_3)).trans hx185_3
      replace hx185_4 := (HB.out.cell (World.block_lt_of_cell? w _ hx185_4)).trans hx185_4
      replace hx185_5 := (HB.out.cell (World.block_lt_of_cell? w _ hx185_5)).trans hx185_5
      replace p185 := eq_true p185
      replace q185 := eq_true q185
      go_wp2
      go_ret
      exact ⟨by first | rfl | (simp [errW_none, errW_some] <;> rfl) | (simp [*, errW_none, errW_some] <;> rfl), bf_ HB⟩
     ·rw [if_neg c6] at H
      have c6b0 : (((rd_T38 l0_4 x5_1).f0) == a1) = false := beq_eq_false_iff_ne.mpr c6
      have c6b1 : (((rd_T38 l0_4 x5_1).f0) != a1) = true := bne_iff_ne.mpr c6
      have H' := Aside0.mk H
      clear H; have hcz8_0 := bc_ BK184 0 (.int .i64 a0_0) rfl; have hcz8_1 := bc_ BK184 1 (.int .i64 a0_1) rfl; have hcz8_2 := bc_ BK184 2 (.int .i64 a0_2) rfl; have hcz8_3 := bc_ BK184 3 (.int .i64 a0_3) rfl; have hcz8_4 := bc_ BK184 4 (.slice A0_4 l0_4.length c0_4) rfl; have hfz8_0 := blk_frozen BK184.out 0; have hfz8_1 := blk_frozen BK184.out 1; have hfz8_2 := blk_frozen BK184.out 2; have hfz8_3 := blk_frozen BK184.out 3; have hfz8_4 := blk_frozen BK184.out 4
      have p185 : 0 ≤ (x5_1 : Int) := of_decide_eq_true (by first | (with_reducible assumption) | assumption)
      have q185 : x5_1 < (l0_4.length : Int) := of_decide_eq_true (by first | (with_reducible assumption) | assumption)
      obtain ⟨ad185, e185, hx185_0, hx185_1, hx185_2, hx185_3, hx185_4, hx185_5⟩ := at_T38 HR0_4.out x5_1 p185 q185
      cases e185
      replace hx185_0 := (HB.out.cell (World.block_lt_of_cell? w _ hx185_0)).trans hx185_0
      replace hx185_1 := (HB.out.cell (World.block_lt_of_cell? w _ hx185_1)).trans hx185_1
      replace hx185_2 := (HB.out.cell (World.block_lt_of_cell? w _ hx185_2)).trans hx185_2
      replace hx185_3 := (HB.out.cell (World.block_lt_of_cell? w _ hx185_3)).trans hx185_3
      replace hx185_4 := (HB.out.cell (World.block_lt_of_cell? w _ hx185_4)).trans hx185_4
      replace hx185_5 := (HB.out.cell (World.block_lt_of_cell? w _ hx185_5)).trans hx185_5
      replace p185 := eq_true p185
      replace q185 := eq_true q185
      go_wp2
      go_roundg k1
      case measure => have := HK1.out; omega
      case rel => exact ⟨(wrap64 (x5_1 + 1)), (by first | rfl | (simp; done) | (simp [*]; done)), H', ⟨by have := HK1.out; omega⟩, ⟨bk_ BK184⟩, ⟨bf_ HB⟩⟩
    ·rw [if_neg c5] at H
     exact absurd H (by simp)
   ·rw [if_neg c4] at H
    have c4b0 : decide (x5_1 < (l0_4.length : Int)) = false := decide_eq_false c4
    clear c4
    obtain rfl := Option.some.inj H
    have hcz9_0 := bc_ BK184 0 (.int .i64 a0_0) rfl; have hcz9_1 := bc_ BK184 1 (.int .i64 a0_1) rfl; have hcz9_2 := bc_ BK184 2 (.int .i64 a0_2) rfl; have hcz9_3 := bc_ BK184 3 (.int .i64 a0_3) rfl; have hcz9_4 := bc_ BK184 4 (.slice A0_4 l0_4.length c0_4) rfl; have hfz9_0 := blk_frozen BK184.out 0; have hfz9_1 := blk_frozen BK184.out 1; have hfz9_2 := blk_frozen BK184.out 2; have hfz9_3 := blk_frozen BK184.out 3; have hfz9_4 := blk_frozen BK184.out 4
    go_wp2
    go_ret
    exact ⟨by first | rfl | (simp [errW_none, errW_some] <;> rfl) | (simp [*, errW_none, errW_some] <;> rfl), bf_ HB⟩

/-! ### spec_VecMost: function 59 -/
def spec_VecMost.f (a0_0 : Int) (a0_1 : Int) (a0_2 : Int) (a1_0 : Int) (a1_1 : Int) (a1_2 : Int) : Option (Int × Int × Int) := some (mx a0_0 a1_0, mx a0_1 a1_1, mx a0_2 a1_2)
set_option maxHeartbeats 8000000 in
set_option maxRecDepth 100000 in
theorem spec_VecMost.calls (a0_0 : Int) (a0_1 : Int) (a0_2 : Int) (a1_0 : Int) (a1_1 : Int) (a1_2 : Int) (r1 : Int) (r2 : Int) (r3 : Int) (w : World) (h : spec_VecMost.f a0_0 a0_1 a0_2 a1_0 a1_1 a1_2 = some (r1, r2, r3)) :
  Calls Try.prog 59 #[.agg #[.int .i64 a0_0, .int .i64 a0_1, .int .i64 a0_2], .agg #[.int .i64 a1_0, .int .i64 a1_1, .int .i64 a1_2]] w fun e w' => e = .returned (.agg #[.int .i64 r1, .int .i64 r2, .int .i64 r3]) ∧ Below w.heap.size w w' := by
 have hu29 := Try.underlying29; have HB := Aside0.mk (Below.refl w.heap.size w)
 have H : (some (mx a0_0 a1_0, mx a0_1 a1_1, mx a0_2 a1_2)) = some (r1, r2, r3) := h
 clear h
 obtain ⟨ji3, hji3⟩ : ∃ j_ : Int, (mx a0_0 a1_0) = j_ := ⟨_, rfl⟩
 replace H : (some (ji3, mx a0_1 a1_1, mx a0_2 a1_2)) = some (r1, r2, r3) := by first | (rw [hji3] at H; exact H) | (simp only [hji3] at H ⊢; exact H)
 have hji3_ : (if a0_0 < a1_0 then a1_0 else a0_0) = ji3 := hji3
 obtain ⟨ji4, hji4⟩ : ∃ j_ : Int, (mx a0_1 a1_1) = j_ := ⟨_, rfl⟩
 replace H : (some (ji3, ji4, mx a0_2 a1_2)) = some (r1, r2, r3) := by first | (rw [hji4] at H; exact H) | (simp only [hji4] at H ⊢; exact H)
 have hji4_ : (if a0_1 < a1_1 then a1_1 else a0_1) = ji4 := hji4
 obtain ⟨ji5, hji5⟩ : ∃ j_ : Int, (mx a0_2 a1_2) = j_ := ⟨_, rfl⟩
 replace H : (some (ji3, ji4, ji5)) = some (r1, r2, r3) := by first | (rw [hji5] at H; exact H) | (simp only [hji5] at H ⊢; exact H)
 have hji5_ : (if a0_2 < a1_2 then a1_2 else a0_2) = ji5 := hji5
 simp only [Option.some.injEq, Prod.mk.injEq] at H
 obtain ⟨rfl, rfl, rfl⟩ := H
 go_enter Try.func59, Try.ntmps59
 go_wp2_with (first | ((with_reducible refine gate_dst (N := 2) rfl ?_); refine box_event ?hg (N := 2) ?hd (cs := #[.int .i64 a0_0, .int .i64 a0_1, .int .i64 a0_2]) (t := 29) ?hr ?_; (case hd => rfl); (case hg => rfl); (case hr => first | (go_simp; done) | (go_simp; rfl)); intro gb186 hg w6 hbox hb; have n0_ := Aside0.mk (below_step (be_ HB) hb); have n1_ := Aside0.mk (hbox); have n2_ := gw_ HB hg; have n3_ := gw_ HB hg; clear HB; have HB := n0_; have BK186 := n1_; have GW186 := n2_; have GE186 := n3_; clear n0_ n1_ n2_ n3_; clear hb hbox hg) | ((with_reducible refine gate_dst (N := 3) rfl ?_); refine box_event ?hg (N := 3) ?hd (cs := #[.int .i64 a1_0, .int .i64 a1_1, .int .i64 a1_2]) (t := 29) ?hr ?_; (case hd => rfl); (case hg => rfl); (case hr => first | (go_simp; done) | (go_simp; rfl)); intro gb187 hg w7 hbox hb; have n0_ := bb_ BK186 hb; have n1_ := Aside0.mk (below_step (bf_ HB) hb); have n2_ := Aside0.mk (hbox); have n3_ := gw_ HB hg; have n4_ := gw_ HB hg; have n5_ := nl_ BK186 hg; have n6_ := ng_ BK186 hg; clear BK186; clear HB; have BK186 := n0_; have HB := n1_; have BK187 := n2_; have GW187 := n3_; have GE187 := n4_; have NB186_187 := n5_; have NB187_186 := n6_; clear n0_ n1_ n2_ n3_ n4_ n5_ n6_; clear hb hbox hg) | ((with_reducible refine gate_dst (N := 4) rfl ?_); refine box_event ?hg (N := 4) ?hd (cs := #[.int .i64 0, .int .i64 0, .int .i64 0]) (t := 29) ?hr ?_; (case hd => rfl); (case hg => rfl); (case hr => first | (go_simp; done) | (go_simp; rfl)); intro gb188 hg w8 hbox hb; have n0_ := bb_ BK186 hb; have n1_ := bb_ BK187 hb; have n2_ := Aside0.mk (below_step (bf_ HB) hb); have n3_ := Aside0.mk (hbox); have n4_ := gw_ HB hg; have n5_ := gw_ HB hg; have n6_ := nl_ BK186 hg; have n7_ := ng_ BK186 hg; have n8_ := nl_ BK187 hg; have n9_ := ng_ BK187 hg; clear BK186; clear BK187; clear HB; have BK186 := n0_; have BK187 := n1_; have HB := n2_; have BK188 := n3_; have GW188 := n4_; have GE188 := n5_; have NB186_188 := n6_; have NB188_186 := n7_; have NB187_188 := n8_; have NB188_187 := n9_; clear n0_ n1_ n2_ n3_ n4_ n5_ n6_ n7_ n8_ n9_; clear hb hbox hg; have hnb9 := NB186_187.out; have hnc9 := NB187_186.out; have hnb10 := NB186_188.out; have hnc10 := NB188_186.out; have hcz11_0 := bc_ BK186 0 (.int .i64 a0_0) rfl; have hcz11_1 := bc_ BK186 1 (.int .i64 a0_1) rfl; have hcz11_2 := bc_ BK186 2 (.int .i64 a0_2) rfl; have hfz11_0 := blk_frozen BK186.out 0; have hfz11_1 := blk_frozen BK186.out 1; have hfz11_2 := blk_frozen BK186.out 2; have hnb12 := NB187_188.out; have hnc12 := NB188_187.out; have hcz13_0 := bc_ BK187 0 (.int .i64 a1_0) rfl; have hcz13_1 := bc_ BK187 1 (.int .i64 a1_1) rfl; have hcz13_2 := bc_ BK187 2 (.int .i64 a1_2) rfl; have hfz13_0 := blk_frozen BK187.out 0; have hfz13_1 := blk_frozen BK187.out 1; have hfz13_2 := blk_frozen BK187.out 2; have hcz14_0 := bc_ BK188 0 (.int .i64 0) rfl; have hcz14_1 := bc_ BK188 1 (.int .i64 0) rfl; have hcz14_2 := bc_ BK188 2 (.int .i64 0) rfl; have hfz14_0 := blk_frozen BK188.out 0; have hfz14_1 := blk_frozen BK188.out 1; have hfz14_2 := blk_frozen BK188.out 2))
 refine bodyPost_ret (results_cell_row rfl _ _ gb188 29 #[.int .i64 ji3, .int .i64 ji4, .int .i64 ji5] (0, 0) _ rfl (by (with_reducible repeat (first | refine blk_drewN ?_ _ | refine blk_drew ?_ | refine blk_alloc ?_ _)); refine blk_put (cs := #[.int .i64 ji3, .int .i64 ji4, .int .i64 0]) ?_ 2 _ rfl; (with_reducible repeat (first | refine blk_drewN ?_ _ | refine blk_drew ?_ | refine blk_alloc ?_ _)); refine blk_put (cs := #[.int .i64 ji3, .int .i64 0, .int .i64 0]) ?_ 1 _ rfl; (with_reducible repeat (first | refine blk_drewN ?_ _ | refine blk_drew ?_ | refine blk_alloc ?_ _)); refine blk_put (cs := #[.int .i64 0, .int .i64 0, .int .i64 0]) ?_ 0 _ rfl; exact bk_ BK188) Try.underlying29 rfl (by kernel_rfl)) rfl ?_
 exact ⟨by first | rfl | (simp [errW_none, errW_some] <;> rfl) | (simp only [← hji3, ← hji4, ← hji5]; first | rfl | (simp [errW_none, errW_some] <;> rfl)) | (simp [*, errW_none, errW_some] <;> rfl), bf_ HB⟩

/-! ### spec_l18Copy: function 61 -/
def spec_l18Copy.f (a0_0 : Int) (a0_1 : Int) (a0_2 : Int) (a0_3 : Int) (l0_4 : List (S38)) : Option (Int × Int × Int × Int × (List (S38))) := (some (([] : List (S38)) : List (S38))).bind fun y191 => (if y191.length + l0_4.length < 2932031007402 then (some (a0_0, a0_1, a0_2, a0_3, (y191 ++ l0_4))) else (none))
def spec_l18Copy.T1 : Bool × List (List Nat × List Nat) := (true, [([], []), ([0], [0]), ([], []), ([2], [2]), ([], []), ([], []), ([5], [5]), ([4, 6], [4, 6]), ([1, 3, 7], [1, 3, 7]), ([8, 7, 0, 1, 2, 3, 4, 5, 6, 7, 8], [8])])
def spec_l18Copy.B1 : List Nat := [0, 1, 0, 4, 0, 0, 32, 112, 255, 511]
theorem spec_l18Copy.tab1 : rtab .any (opsOf Try.f61 1) = spec_l18Copy.T1 := by kernel_rfl
theorem spec_l18Copy.bits1 : waitsOk spec_l18Copy.T1.2 spec_l18Copy.B1 = true := by kernel_rfl
set_option maxHeartbeats 8000000 in
set_option maxRecDepth 100000 in
theorem spec_l18Copy.calls (a0_0 : Int) (a0_1 : Int) (a0_2 : Int) (a0_3 : Int) (A0_4 : Option Addr) (c0_4 : Nat) (l0_4 : List (S38)) (r1 : Int) (r2 : Int) (r3 : Int) (r4 : Int) (r5 : List (S38)) (w : World) (hr0_4 : Kd.C k38 w A0_4 l0_4.length l0_4) (hc0_4 : l0_4.length ≤ c0_4) (h : spec_l18Copy.f a0_0 a0_1 a0_2 a0_3 l0_4 = some (r1, r2, r3, r4, r5)) :
  Calls Try.prog 61 #[.agg #[.int .i64 a0_0, .int .i64 a0_1, .int .i64 a0_2, .int .i64 a0_3, .slice A0_4 l0_4.length c0_4]] w fun e w' => ∃ v4_ : Value, e = .returned (.agg #[.int .i64 r1, .int .i64 r2, .int .i64 r3, .int .i64 r4, v4_]) ∧ Kd.R k38 38 w' w.heap.size (fun _ => True) v4_ r5 ∧ Below w.heap.size w w' := by
 have hu32 := Try.underlying32; have hu29 := Try.underlying29
 have HR0_4 := Aside0.mk hr0_4
 have HC0_4 := Aside0.mk hc0_4
 clear hr0_4 hc0_4; have HB := Aside0.mk (Below.refl w.heap.size w)
 have H : ((some (([] : List (S38)) : List (S38))).bind fun y191 => (if y191.length + l0_4.length < 2932031007402 then (some (a0_0, a0_1, a0_2, a0_3, (y191 ++ l0_4))) else (none))) = some (r1, r2, r3, r4, r5) := h
 clear h
 obtain ⟨y191, hy191⟩ : ∃ y_ : List (S38), y_ = (([] : List (S38))) := ⟨_, rfl⟩
 replace H : (if y191.length + l0_4.length < 2932031007402 then (some (a0_0, a0_1, a0_2, a0_3, (y191 ++ l0_4))) else (none)) = some (r1, r2, r3, r4, r5) := by first | (rw [hy191]; with_reducible exact H) | (have H2_ := (Option.bind_some _ _).symm.trans H; rw [hy191]; with_reducible exact H2_) | (have H2_ := (Option.bind_some _ _).symm.trans H; with_reducible exact H2_) | with_reducible exact H | (rw [hy191]; exact H) | exact H
 have Ny191 := Aside0.mk hy191
 clear hy191
 by_cases c2 : y191.length + l0_4.length < 2932031007402
 ·rw [if_pos c2] at H
  have LMc2 := Aside0.mk c2
  clear c2
  obtain ⟨y194, hy194⟩ : ∃ y_ : List (S38), y_ = (y191 ++ l0_4) := ⟨_, rfl⟩
  replace H : (some (a0_0, a0_1, a0_2, a0_3, y194)) = some (r1, r2, r3, r4, r5) := by first | (rw [hy194]; with_reducible exact H) | (have H2_ := (Option.bind_some _ _).symm.trans H; rw [hy194]; with_reducible exact H2_) | (have H2_ := (Option.bind_some _ _).symm.trans H; with_reducible exact H2_) | with_reducible exact H | (rw [hy194]; exact H) | exact H
  have Ny194 := Aside0.mk hy194
  clear hy194
  simp only [Option.some.injEq, Prod.mk.injEq] at H
  obtain ⟨rfl, rfl, rfl, rfl, rfl⟩ := H
  go_enter Try.func61, Try.ntmps61
  try go_wp2_with (first | ((with_reducible refine gate_dst (N := 1) rfl ?_); refine box_event ?hg (N := 1) ?hd (cs := #[.int .i64 a0_0, .int .i64 a0_1, .int .i64 a0_2, .int .i64 a0_3, .slice A0_4 l0_4.length c0_4]) (t := 32) ?hr ?_; (case hd => rfl); (case hg => rfl); (case hr => first | (go_simp; done) | (go_simp; rfl)); intro gb189 hg w3 hbox hb; have n0_ := Aside0.mk (below_step (be_ HB) hb); have n1_ := Aside0.mk (hbox); have n2_ := gw_ HB hg; have n3_ := gw_ HB hg; clear HB; have HB := n0_; have BK189 := n1_; have GW189 := n2_; have GE189 := n3_; clear n0_ n1_ n2_ n3_; clear hb hbox hg) | ((with_reducible refine gate_dst (N := 2) rfl ?_); refine box_event ?hg (N := 2) ?hd (cs := #[.int .i64 0, .int .i64 0, .int .i64 0, .int .i64 0, .slice none 0 0]) (t := 32) ?hr ?_; (case hd => rfl); (case hg => rfl); (case hr => first | (go_simp; done) | (go_simp; rfl)); intro gb190 hg w4 hbox hb; have n0_ := bb_ BK189 hb; have n1_ := Aside0.mk (below_step (bf_ HB) hb); have n2_ := Aside0.mk (hbox); have n3_ := gw_ HB hg; have n4_ := gw_ HB hg; have n5_ := nl_ BK189 hg; have n6_ := ng_ BK189 hg; clear BK189; clear HB; have BK189 := n0_; have HB := n1_; have BK190 := n2_; have GW190 := n3_; have GE190 := n4_; have NB189_190 := n5_; have NB190_189 := n6_; clear n0_ n1_ n2_ n3_ n4_ n5_ n6_; clear hb hbox hg))
  have n0_ := Aside0.mk (blk_drew BK189.out); have n1_ := Aside0.mk (blk_drew BK190.out); have n2_ := Aside0.mk (below_drew1 HB.out); clear BK189; clear BK190; clear HB; have BK189 := n0_; have BK190 := n1_; have HB := n2_; clear n0_ n1_ n2_
  refine start_ (n := 10) (S := fun w' => w'.cell? ⟨gb189, 0, none⟩ = some (.int .i64 a0_0) ∧ w'.cell? ⟨gb189, 1, none⟩ = some (.int .i64 a0_1) ∧ w'.cell? ⟨gb189, 2, none⟩ = some (.int .i64 a0_2) ∧ w'.cell? ⟨gb189, 3, none⟩ = some (.int .i64 a0_3) ∧ w'.cell? ⟨gb189, 4, none⟩ = some (.slice A0_4 l0_4.length c0_4)) (ds := []) (bs 10 0) (by kernel_rfl) rfl rfl ⟨bt_ BK189 0, bt_ BK189 1, bt_ BK189 2, bt_ BK189 3, bt_ BK189 4⟩ (fun hHeld => ?_); refine with_tabW spec_l18Copy.tab1 spec_l18Copy.bits1 (fun HT_ HW_ => ?_)
  generalize w4.drew = w5 at BK189 BK190 HB hHeld ⊢
  refine pure_s (i := 0) (N := some 3) (bs 10 1) (any_of HT_.out (by kernel_rfl)) (h := ?_)
  refine pure_s (i := 2) (N := some 5) #[oT,oF,oT,oF,oF,oF,oF,oF,oF,oF] (any_of HT_.out (by kernel_rfl)) (h := ?_)
  refine pure_s (i := 5) (N := some 8) #[oT,oF,oT,oF,oF,oT,oF,oF,oF,oF] (any_of HT_.out (by kernel_rfl)) (h := ?_)
  refine take_ (i := 1) (N := some 4) (v := ?_) (a' := ?_) #[oT,oT,oT,oF,oF,oT,oF,oF,oF,oF] rfl rfl (take_ofW HT_.out HW_.out (by kernel_rfl)) (fun _ _ _ h => h) (Or.inl ⟨by rfl, ?_⟩) hHeld ?_ ?_
  rotate_left
  ·rintro w' ⟨s0, s1, s2, s3, s4⟩
   go_simp
   with_reducible rfl
  rotate_left
  ·simp only [Act.put, List.setIfInBounds_toArray, List.set_cons_zero, List.set_cons_succ, i64_w, i32_w]
   rfl
  refine take_ (i := 3) (N := some 6) (v := ?_) (a' := ?_) #[oT,oT,oT,oT,oF,oT,oF,oF,oF,oF] rfl rfl (take_ofW HT_.out HW_.out (by kernel_rfl)) (fun _ _ _ h => h) (Or.inl ⟨by rfl, ?_⟩) hHeld ?_ ?_
  rotate_left
  ·rintro w' ⟨s0, s1, s2, s3, s4⟩
   go_simp
   with_reducible rfl
  rotate_left
  ·simp only [Act.put, List.setIfInBounds_toArray, List.set_cons_zero, List.set_cons_succ, i64_w, i32_w]
   rfl
  refine take_ (i := 6) (N := some 9) (v := ?_) (a' := ?_) #[oT,oT,oT,oT,oF,oT,oT,oF,oF,oF] rfl rfl (take_ofW HT_.out HW_.out (by kernel_rfl)) (fun _ _ _ h => h) (Or.inl ⟨by rfl, ?_⟩) hHeld ?_ ?_
  rotate_left
  ·rintro w' ⟨s0, s1, s2, s3, s4⟩
   go_simp
   with_reducible rfl
  rotate_left
  ·simp only [Act.put, List.setIfInBounds_toArray, List.set_cons_zero, List.set_cons_succ, i64_w, i32_w]
   rfl
  refine one_ (i := 4) (N := some 7) (bs 10 7) rfl rfl (one_of HT_.out (by kernel_rfl)) (by decide) (fun K hK => ?_)
  refine Kd.R_lit_step k38 _ 38 ?hg (N := 7) ?hd (xs := ([] : List (S38))) (inner := []) (ok := fun _ => True) (okp := fun _ => True) ?hr ?hp (fun _ hk => by first | exact hk | grind) trivial (Below.refl _ _) (Nat.le_refl _) (by simp) ?_; (case hd => rfl); (case hg => rfl); (case hr => first | (go_simp; done) | (go_simp; rfl)); (case hp => exact (Reps.none _ _))
  intro v192 w6 ho7 hb hg_ hnew_
  clear hg_ hnew_
  (first | rw [← Ny191.out] at ho7 | (simp only [Int.reduceToNat] at ho7; rw [← Ny191.out] at ho7))
  have n0_ := Aside0.mk (Kd.R_lower ho7 (below_size (bf_ HB))); have n1_ := bb_ BK189 hb; have n2_ := bb_ BK190 hb; have n3_ := Aside0.mk (below_step (bf_ HB) hb); clear BK189; clear BK190; clear HB; have HO193 := n0_; have BK189 := n1_; have BK190 := n2_; have HB := n3_; clear n0_ n1_ n2_ n3_; clear hb ho7
  refine hK.out _ _ ⟨bt_ BK189 0, bt_ BK189 1, bt_ BK189 2, bt_ BK189 3, bt_ BK189 4⟩ (fun hHeld => ?_)
  clear hK K
  refine norm_ (a' := ?_) ?_ ?_
  rotate_left
  ·show Act.put _ (some 7) _ = _
   simp only [Act.put, List.setIfInBounds_toArray, List.set_cons_zero, List.set_cons_succ, i64_w, i32_w]
   rfl
  refine one_ (i := 7) (N := some 10) (bs 10 8) rfl rfl (one_of HT_.out (by kernel_rfl)) (by decide) (fun K hK => ?_)
  refine Kd.R_append_rows_step k38 (w0 := w) w.heap.size (by rfl) (.tmp 7) (.tmp 9) 30 38 (.agg #[(.int .i64 0), (.int .i64 0), (.bool false), (.int .i64 0), (.int .i64 0), (.int .i64 0)]) 48 rfl Try.underlying30 info38 rfl (by decide) (by omega) v192 y191 l0_4 _ _ _ (fun _ => True) (fun _ => False) rfl rfl ?aO ?aR (fun _ _ h => h) (fun _ h => h.elim) ?aF ?aB ?aS ?aL ?_
  (case aR => repeat (first | exact (Kd.C_below HR0_4.out HB.out) | (with_reducible refine Kd.C_alloc ?_ _) | (with_reducible refine Kd.C_drewN ?_ _) | (with_reducible refine Kd.C_drew ?_)))
  (case aB => exact (bf_ HB))
  (case aF => exact (fun _ _ => trivial))
  (case aO => exact (kr_ HO193))
  (case aS => exact (below_size (bf_ HB)))
  (case aL => have := LMc2.out; omega)
  intro v195 w8 ho hb hg hat
  rw [← Ny194.out] at ho
  have n0_ := Aside0.mk (blk_grown (g := gb189) (o := .cells #[.int .i64 a0_0, .int .i64 a0_1, .int .i64 a0_2, .int .i64 a0_3, .slice A0_4 l0_4.length c0_4] 32 (0, 0)) (bk_ BK189) hg (Kd.R_ne HO193.out BK189.out (by decide)))
  have n1_ := Aside0.mk (blk_grown (g := gb190) (o := .cells #[.int .i64 0, .int .i64 0, .int .i64 0, .int .i64 0, .slice none 0 0] 32 (0, 0)) (bk_ BK190) hg (Kd.R_ne HO193.out BK190.out (by decide)))
  have n2_ := Aside0.mk (hb); have n3_ := Aside0.mk (ho); clear BK189; clear BK190; clear HB; clear HO193; have BK189 := n0_; have BK190 := n1_; have HB := n2_; have HO196 := n3_; clear n0_ n1_ n2_ n3_; clear ho hb hg hat
  obtain ⟨Ao9, co9, eo9⟩ := Kd.R_slice HO196.out
  (first | subst eo9 | (injection eo9 with f1_ f2_ f3_; have f4_ := f1_.symm; have f5_ := f3_.symm; clear f1_ f2_ f3_; subst f4_; subst f5_))
  refine hK.out _ _ ⟨bt_ BK189 0, bt_ BK189 1, bt_ BK189 2, bt_ BK189 3, bt_ BK189 4⟩ (fun hHeld => ?_)
  clear hK K
  refine norm_ (a' := ?_) ?_ ?_
  rotate_left
  ·show Act.put _ (some 10) _ = _
   simp only [Act.put, List.setIfInBounds_toArray, List.set_cons_zero, List.set_cons_succ, i64_w, i32_w]
   rfl
  refine pure_s (i := 8) (N := some 11) (bs 10 9) (any_of HT_.out (by kernel_rfl)) (h := ?_)
  refine one_ (i := 9) (N := none) (bs 10 10) rfl rfl (one_of HT_.out (by kernel_rfl)) (by decide) (fun K hK => ?_)
  have hs10 := bc_ BK190 0 (.int .i64 0) rfl; have hfs10 := blk_frozen BK190.out 0; have hns10_0 := NB189_190.out; have hms10_0 := NB190_189.out; have hs11 := bc_ BK190 1 (.int .i64 0) rfl; have hfs11 := blk_frozen BK190.out 1; have hns11_0 := NB189_190.out; have hms11_0 := NB190_189.out; have hs12 := bc_ BK190 2 (.int .i64 0) rfl; have hfs12 := blk_frozen BK190.out 2; have hns12_0 := NB189_190.out; have hms12_0 := NB190_189.out; have hs13 := bc_ BK190 3 (.int .i64 0) rfl; have hfs13 := blk_frozen BK190.out 3; have hns13_0 := NB189_190.out; have hms13_0 := NB190_189.out; have hs14 := bc_ BK190 4 (.slice none 0 0) rfl; have hfs14 := blk_frozen BK190.out 4; have hns14_0 := NB189_190.out; have hms14_0 := NB190_189.out
  refine skip_ (w1 := ?_) (by rfl) rfl ?_ ?_
  rotate_left
  ·go_simp
   rfl
  refine hK.out _ _ ⟨((cell_far (p := ⟨gb190, _, none⟩) NB189_190.out _).trans (((cell_far (p := ⟨gb190, _, none⟩) NB189_190.out _).trans (((cell_far (p := ⟨gb190, _, none⟩) NB189_190.out _).trans (((cell_far (p := ⟨gb190, _, none⟩) NB189_190.out _).trans (((cell_far (p := ⟨gb190, _, none⟩) NB189_190.out _).trans (hHeld.1)))))))))), ((cell_far (p := ⟨gb190, _, none⟩) NB189_190.out _).trans (((cell_far (p := ⟨gb190, _, none⟩) NB189_190.out _).trans (((cell_far (p := ⟨gb190, _, none⟩) NB189_190.out _).trans (((cell_far (p := ⟨gb190, _, none⟩) NB189_190.out _).trans (((cell_far (p := ⟨gb190, _, none⟩) NB189_190.out _).trans (hHeld.2.1)))))))))), ((cell_far (p := ⟨gb190, _, none⟩) NB189_190.out _).trans (((cell_far (p := ⟨gb190, _, none⟩) NB189_190.out _).trans (((cell_far (p := ⟨gb190, _, none⟩) NB189_190.out _).trans (((cell_far (p := ⟨gb190, _, none⟩) NB189_190.out _).trans (((cell_far (p := ⟨gb190, _, none⟩) NB189_190.out _).trans (hHeld.2.2.1)))))))))), ((cell_far (p := ⟨gb190, _, none⟩) NB189_190.out _).trans (((cell_far (p := ⟨gb190, _, none⟩) NB189_190.out _).trans (((cell_far (p := ⟨gb190, _, none⟩) NB189_190.out _).trans (((cell_far (p := ⟨gb190, _, none⟩) NB189_190.out _).trans (((cell_far (p := ⟨gb190, _, none⟩) NB189_190.out _).trans (hHeld.2.2.2.1)))))))))), ((cell_far (p := ⟨gb190, _, none⟩) NB189_190.out _).trans (((cell_far (p := ⟨gb190, _, none⟩) NB189_190.out _).trans (((cell_far (p := ⟨gb190, _, none⟩) NB189_190.out _).trans (((cell_far (p := ⟨gb190, _, none⟩) NB189_190.out _).trans (((cell_far (p := ⟨gb190, _, none⟩) NB189_190.out _).trans (hHeld.2.2.2.2))))))))))⟩ (fun hHeld => ?_)
  clear hK K
  refine done_ (done_of HT_.out (by kernel_rfl)) ?_
  try go_wp2
  refine bodyPost_ret (results_cell_row rfl _ _ gb190 32 #[.int .i64 a0_0, .int .i64 a0_1, .int .i64 a0_2, .int .i64 a0_3, .slice Ao9 y194.length co9] (0, 0) _ rfl (by (with_reducible repeat (first | refine blk_drewN ?_ _ | refine blk_drew ?_ | refine blk_alloc ?_ _)); refine blk_put (cs := #[.int .i64 a0_0, .int .i64 a0_1, .int .i64 a0_2, .int .i64 a0_3, .slice none 0 0]) ?_ 4 _ rfl; (with_reducible repeat (first | refine blk_drewN ?_ _ | refine blk_drew ?_ | refine blk_alloc ?_ _)); refine blk_put (cs := #[.int .i64 a0_0, .int .i64 a0_1, .int .i64 a0_2, .int .i64 0, .slice none 0 0]) ?_ 3 _ rfl; (with_reducible repeat (first | refine blk_drewN ?_ _ | refine blk_drew ?_ | refine blk_alloc ?_ _)); refine blk_put (cs := #[.int .i64 a0_0, .int .i64 a0_1, .int .i64 0, .int .i64 0, .slice none 0 0]) ?_ 2 _ rfl; (with_reducible repeat (first | refine blk_drewN ?_ _ | refine blk_drew ?_ | refine blk_alloc ?_ _)); refine blk_put (cs := #[.int .i64 a0_0, .int .i64 0, .int .i64 0, .int .i64 0, .slice none 0 0]) ?_ 1 _ rfl; (with_reducible repeat (first | refine blk_drewN ?_ _ | refine blk_drew ?_ | refine blk_alloc ?_ _)); refine blk_put (cs := #[.int .i64 0, .int .i64 0, .int .i64 0, .int .i64 0, .slice none 0 0]) ?_ 0 _ rfl; exact bk_ BK190) Try.underlying32 rfl (by kernel_rfl)) rfl ?_
  exact ⟨_, by first | rfl | (simp [errW_none, errW_some] <;> rfl) | (simp [*, errW_none, errW_some] <;> rfl), by (with_reducible repeat (first | apply Kd.R_alloc | apply Kd.R_drewN | apply Kd.R_drew)); exact Kd.R_mono (Kd.R_far (p := ⟨gb190, 4, none⟩) (Kd.R_far (p := ⟨gb190, 3, none⟩) (Kd.R_far (p := ⟨gb190, 2, none⟩) (Kd.R_far (p := ⟨gb190, 1, none⟩) (Kd.R_far (p := ⟨gb190, 0, none⟩) (Kd.R_types HO196.out BK190.out (by decide)) (fun _ hk => by first | exact hk.2 | grind) (.int .i64 a0_0)) (fun _ hk => by first | exact hk.2 | grind) (.int .i64 a0_1)) (fun _ hk => by first | exact hk.2 | grind) (.int .i64 a0_2)) (fun _ hk => by first | exact hk.2 | grind) (.int .i64 a0_3)) (fun _ hk => by first | exact hk.2 | grind) (.slice Ao9 y194.length co9)) (fun _ hk => by first | exact trivial | grind), bf_ HB⟩
 ·rw [if_neg c2] at H
  exact absurd H (by simp)

/-! ### spec_FairWake: function 33 -/
def spec_FairWake.f (k : Nat) (a0_0 : Int) (a0_1 : Int) (a0_2 : Int) (a0_3 : Int) (l0_4 : List (S38)) (a1 : Int) : Option (Int × Int × Int × Int × (List (S38)) × Int) := (spec_FairOk.f k a0_0 a0_1 a0_2 a0_3 l0_4).bind fun t199 => (if t199 = true then ((spec_l18At.f k a0_0 a0_1 a0_2 a0_3 l0_4 a1).bind fun t200 => (if t200 < 0 then (some (0, 0, 0, 0, ([] : List (S38)), 4)) else (if 0 ≤ t200 then (if t200 < (l0_4.length : Int) then (if (rd_T38 l0_4 t200).f2 = true then (some (0, 0, 0, 0, ([] : List (S38)), 2)) else ((spec_l18Copy.f a0_0 a0_1 a0_2 a0_3 l0_4).bind fun bt202 => (if t200 < (bt202.2.2.2.2.length : Int) then ((some (bt202.2.2.2.2.set (t200 : Int).toNat (⟨(rd_T38 bt202.2.2.2.2 t200).f0, (rd_T38 bt202.2.2.2.2 t200).f1, true, (⟨(rd_T38 bt202.2.2.2.2 t200).f3.f0, (rd_T38 bt202.2.2.2.2 t200).f3.f1, (rd_T38 bt202.2.2.2.2 t200).f3.f2⟩ : S29)⟩ : S38) : List (S38))).bind fun y210 => ((spec_VecMost.f ((rd_T38 l0_4 t200).f3.f0) ((rd_T38 l0_4 t200).f3.f1) ((rd_T38 l0_4 t200).f3.f2) a0_1 a0_2 a0_3).bind fun bt212 => (some (bt202.1, bt202.2.1, bt202.2.2.1, bt202.2.2.2.1, (y210.set (t200 : Int).toNat (⟨(rd_T38 y210 t200).f0, (rd_T38 y210 t200).f1, (rd_T38 y210 t200).f2, (⟨bt212.1, bt212.2.1, bt212.2.2⟩ : S29)⟩ : S38)), 0)))) else (none)))) else (none)) else (none)))) else (some (0, 0, 0, 0, ([] : List (S38)), 1)))
theorem spec_FairWake.mono : ∀ a0 a1 a2 a3 a4 a5 k, LeO (spec_FairWake.f k a0 a1 a2 a3 a4 a5) (spec_FairWake.f (k + 1) a0 a1 a2 a3 a4 a5) := by
 intro a0 a1 a2 a3 a4 a5 k
 unfold spec_FairWake.f
 repeat' first
   | (with_reducible exact spec_FairOk.mono _ _ _ _ _ _)
   | (with_reducible exact spec_l18At.mono _ _ _ _ _ _ _)
   | (with_reducible exact LeO.refl _)
   | (with_reducible exact LeO.none _)
   | (with_reducible refine LeO.ite ?_ ?_)
   | (with_reducible refine LeO.bind ?_ (fun _ => ?_))
   | exact spec_FairOk.mono _ _ _ _ _ _
   | exact spec_l18At.mono _ _ _ _ _ _ _
   | exact LeO.none _
   | refine LeO.ite ?_ ?_
   | refine LeO.bind ?_ (fun _ => ?_)
def spec_FairWake.T10 : Bool × List (List Nat × List Nat) := (true, [([], []), ([0], [0]), ([], []), ([], []), ([3], [3]), ([], []), ([4, 5], [4, 5]), ([6], [6]), ([7], [7]), ([], []), ([9], [9]), ([8, 10], [8, 10]), ([1, 2, 0, 1, 2, 3, 4, 5, 6, 7, 8, 9, 10, 11], [1, 2]), ([12, 0, 1, 2, 3, 4, 5, 6, 7, 8, 9, 10, 11], [12]), ([13, 11, 11, 0, 1, 2, 3, 4, 5, 6, 7, 8, 9, 10, 11], [11, 13])])
def spec_FairWake.B10 : List Nat := [0, 1, 0, 0, 8, 0, 56, 120, 248, 0, 512, 2040, 4095, 8191, 16383]
theorem spec_FairWake.tab10 : rtab .any (opsOf Try.f33 10) = spec_FairWake.T10 := by kernel_rfl
theorem spec_FairWake.bits10 : waitsOk spec_FairWake.T10.2 spec_FairWake.B10 = true := by kernel_rfl
set_option maxHeartbeats 8000000 in
set_option maxRecDepth 100000 in
theorem spec_FairWake.calls (k : Nat) (a0_0 : Int) (a0_1 : Int) (a0_2 : Int) (a0_3 : Int) (A0_4 : Option Addr) (c0_4 : Nat) (l0_4 : List (S38)) (a1 : Int) (r1 : Int) (r2 : Int) (r3 : Int) (r4 : Int) (r5 : List (S38)) (r6 : Int) (w : World) (hr0_4 : Kd.C k38 w A0_4 l0_4.length l0_4) (hc0_4 : l0_4.length ≤ c0_4) (h : spec_FairWake.f k a0_0 a0_1 a0_2 a0_3 l0_4 a1 = some (r1, r2, r3, r4, r5, r6)) :
  Calls Try.prog 33 #[.agg #[.int .i64 a0_0, .int .i64 a0_1, .int .i64 a0_2, .int .i64 a0_3, .slice A0_4 l0_4.length c0_4], .int .i64 a1] w fun e w' => ∃ v4_ : Value, e = .returned (.tuple #[.agg #[.int .i64 r1, .int .i64 r2, .int .i64 r3, .int .i64 r4, v4_], .int .i64 r6]) ∧ Kd.R k38 38 w' w.heap.size (fun _ => True) v4_ r5 ∧ Below w.heap.size w w' := by
 have hu32 := Try.underlying32; have hu29 := Try.underlying29
 have HR0_4 := Aside0.mk hr0_4
 have HC0_4 := Aside0.mk hc0_4
 clear hr0_4 hc0_4; have HB := Aside0.mk (Below.refl w.heap.size w)
 have H : ((spec_FairOk.f k a0_0 a0_1 a0_2 a0_3 l0_4).bind fun t199 => (if t199 = true then ((spec_l18At.f k a0_0 a0_1 a0_2 a0_3 l0_4 a1).bind fun t200 => (if t200 < 0 then (some (0, 0, 0, 0, ([] : List (S38)), 4)) else (if 0 ≤ t200 then (if t200 < (l0_4.length : Int) then (if (rd_T38 l0_4 t200).f2 = true then (some (0, 0, 0, 0, ([] : List (S38)), 2)) else ((spec_l18Copy.f a0_0 a0_1 a0_2 a0_3 l0_4).bind fun bt202 => (if t200 < (bt202.2.2.2.2.length : Int) then ((some (bt202.2.2.2.2.set (t200 : Int).toNat (⟨(rd_T38 bt202.2.2.2.2 t200).f0, (rd_T38 bt202.2.2.2.2 t200).f1, true, (⟨(rd_T38 bt202.2.2.2.2 t200).f3.f0, (rd_T38 bt202.2.2.2.2 t200).f3.f1, (rd_T38 bt202.2.2.2.2 t200).f3.f2⟩ : S29)⟩ : S38) : List (S38))).bind fun y210 => ((spec_VecMost.f ((rd_T38 l0_4 t200).f3.f0) ((rd_T38 l0_4 t200).f3.f1) ((rd_T38 l0_4 t200).f3.f2) a0_1 a0_2 a0_3).bind fun bt212 => (some (bt202.1, bt202.2.1, bt202.2.2.1, bt202.2.2.2.1, (y210.set (t200 : Int).toNat (⟨(rd_T38 y210 t200).f0, (rd_T38 y210 t200).f1, (rd_T38 y210 t200).f2, (⟨bt212.1, bt212.2.1, bt212.2.2⟩ : S29)⟩ : S38)), 0)))) else (none)))) else (none)) else (none)))) else (some (0, 0, 0, 0, ([] : List (S38)), 1)))) = some (r1, r2, r3, r4, r5, r6) := h
 clear h
 replace H := Option.bind_eq_some_iff.mp H
 obtain ⟨t199, A30, H⟩ := H
 replace H : (if t199 = true then ((spec_l18At.f k a0_0 a0_1 a0_2 a0_3 l0_4 a1).bind fun t200 => (if t200 < 0 then (some (0, 0, 0, 0, ([] : List (S38)), 4)) else (if 0 ≤ t200 then (if t200 < (l0_4.length : Int) then (if (rd_T38 l0_4 t200).f2 = true then (some (0, 0, 0, 0, ([] : List (S38)), 2)) else ((spec_l18Copy.f a0_0 a0_1 a0_2 a0_3 l0_4).bind fun bt202 => (if t200 < (bt202.2.2.2.2.length : Int) then ((some (bt202.2.2.2.2.set (t200 : Int).toNat (⟨(rd_T38 bt202.2.2.2.2 t200).f0, (rd_T38 bt202.2.2.2.2 t200).f1, true, (⟨(rd_T38 bt202.2.2.2.2 t200).f3.f0, (rd_T38 bt202.2.2.2.2 t200).f3.f1, (rd_T38 bt202.2.2.2.2 t200).f3.f2⟩ : S29)⟩ : S38) : List (S38))).bind fun y210 => ((spec_VecMost.f ((rd_T38 l0_4 t200).f3.f0) ((rd_T38 l0_4 t200).f3.f1) ((rd_T38 l0_4 t200).f3.f2) a0_1 a0_2 a0_3).bind fun bt212 => (some (bt202.1, bt202.2.1, bt202.2.2.1, bt202.2.2.2.1, (y210.set (t200 : Int).toNat (⟨(rd_T38 y210 t200).f0, (rd_T38 y210 t200).f1, (rd_T38 y210 t200).f2, (⟨bt212.1, bt212.2.1, bt212.2.2⟩ : S29)⟩ : S38)), 0)))) else (none)))) else (none)) else (none)))) else (some (0, 0, 0, 0, ([] : List (S38)), 1))) = some (r1, r2, r3, r4, r5, r6) := H
 have A3 := Aside0.mk A30
 clear A30
 by_cases c4 : t199 = true
 ·subst c4
  have H1 : ((spec_l18At.f k a0_0 a0_1 a0_2 a0_3 l0_4 a1).bind fun t200 => (if t200 < 0 then (some (0, 0, 0, 0, ([] : List (S38)), 4)) else (if 0 ≤ t200 then (if t200 < (l0_4.length : Int) then (if (rd_T38 l0_4 t200).f2 = true then (some (0, 0, 0, 0, ([] : List (S38)), 2)) else ((spec_l18Copy.f a0_0 a0_1 a0_2 a0_3 l0_4).bind fun bt202 => (if t200 < (bt202.2.2.2.2.length : Int) then ((some (bt202.2.2.2.2.set (t200 : Int).toNat (⟨(rd_T38 bt202.2.2.2.2 t200).f0, (rd_T38 bt202.2.2.2.2 t200).f1, true, (⟨(rd_T38 bt202.2.2.2.2 t200).f3.f0, (rd_T38 bt202.2.2.2.2 t200).f3.f1, (rd_T38 bt202.2.2.2.2 t200).f3.f2⟩ : S29)⟩ : S38) : List (S38))).bind fun y210 => ((spec_VecMost.f ((rd_T38 l0_4 t200).f3.f0) ((rd_T38 l0_4 t200).f3.f1) ((rd_T38 l0_4 t200).f3.f2) a0_1 a0_2 a0_3).bind fun bt212 => (some (bt202.1, bt202.2.1, bt202.2.2.1, bt202.2.2.2.1, (y210.set (t200 : Int).toNat (⟨(rd_T38 y210 t200).f0, (rd_T38 y210 t200).f1, (rd_T38 y210 t200).f2, (⟨bt212.1, bt212.2.1, bt212.2.2⟩ : S29)⟩ : S38)), 0)))) else (none)))) else (none)) else (none)))) = some (r1, r2, r3, r4, r5, r6) := by rw [if_pos rfl] at H; exact H
  clear H
  have H := H1
  clear H1
  replace H := Option.bind_eq_some_iff.mp H
  obtain ⟨t200, A50, H⟩ := H
  replace H : (if t200 < 0 then (some (0, 0, 0, 0, ([] : List (S38)), 4)) else (if 0 ≤ t200 then (if t200 < (l0_4.length : Int) then (if (rd_T38 l0_4 t200).f2 = true then (some (0, 0, 0, 0, ([] : List (S38)), 2)) else ((spec_l18Copy.f a0_0 a0_1 a0_2 a0_3 l0_4).bind fun bt202 => (if t200 < (bt202.2.2.2.2.length : Int) then ((some (bt202.2.2.2.2.set (t200 : Int).toNat (⟨(rd_T38 bt202.2.2.2.2 t200).f0, (rd_T38 bt202.2.2.2.2 t200).f1, true, (⟨(rd_T38 bt202.2.2.2.2 t200).f3.f0, (rd_T38 bt202.2.2.2.2 t200).f3.f1, (rd_T38 bt202.2.2.2.2 t200).f3.f2⟩ : S29)⟩ : S38) : List (S38))).bind fun y210 => ((spec_VecMost.f ((rd_T38 l0_4 t200).f3.f0) ((rd_T38 l0_4 t200).f3.f1) ((rd_T38 l0_4 t200).f3.f2) a0_1 a0_2 a0_3).bind fun bt212 => (some (bt202.1, bt202.2.1, bt202.2.2.1, bt202.2.2.2.1, (y210.set (t200 : Int).toNat (⟨(rd_T38 y210 t200).f0, (rd_T38 y210 t200).f1, (rd_T38 y210 t200).f2, (⟨bt212.1, bt212.2.1, bt212.2.2⟩ : S29)⟩ : S38)), 0)))) else (none)))) else (none)) else (none))) = some (r1, r2, r3, r4, r5, r6) := H
  have A5 := Aside0.mk A50
  clear A50
  by_cases c6 : t200 < 0
  ·rw [if_pos c6] at H
   have c6b0 : decide (t200 < 0) = true := decide_eq_true c6
   clear c6
   simp only [Option.some.injEq, Prod.mk.injEq] at H
   obtain ⟨rfl, rfl, rfl, rfl, rfl, rfl⟩ := H
   go_enter Try.func33, Try.ntmps33
   go_wp2_with (first | ((with_reducible refine gate_dst (N := 2) rfl ?_); refine box_event ?hg (N := 2) ?hd (cs := #[.int .i64 a0_0, .int .i64 a0_1, .int .i64 a0_2, .int .i64 a0_3, .slice A0_4 l0_4.length c0_4]) (t := 32) ?hr ?_; (case hd => rfl); (case hg => rfl); (case hr => first | (go_simp; done) | (go_simp; rfl)); intro gb197 hg w7 hbox hb; have n0_ := Aside0.mk (below_step (be_ HB) hb); have n1_ := Aside0.mk (hbox); have n2_ := gw_ HB hg; have n3_ := gw_ HB hg; clear HB; have HB := n0_; have BK197 := n1_; have GW197 := n2_; have GE197 := n3_; clear n0_ n1_ n2_ n3_; clear hb hbox hg) | ((with_reducible refine gate_dst (N := 4) rfl ?_); refine box_event ?hg (N := 4) ?hd (cs := #[.int .i64 0, .int .i64 0, .int .i64 0, .int .i64 0, .slice none 0 0]) (t := 32) ?hr ?_; (case hd => rfl); (case hg => rfl); (case hr => first | (go_simp; done) | (go_simp; rfl)); intro gb198 hg w8 hbox hb; have n0_ := bb_ BK197 hb; have n1_ := Aside0.mk (below_step (bf_ HB) hb); have n2_ := Aside0.mk (hbox); have n3_ := gw_ HB hg; have n4_ := gw_ HB hg; have n5_ := nl_ BK197 hg; have n6_ := ng_ BK197 hg; clear BK197; clear HB; have BK197 := n0_; have HB := n1_; have BK198 := n2_; have GW198 := n3_; have GE198 := n4_; have NB197_198 := n5_; have NB198_197 := n6_; clear n0_ n1_ n2_ n3_ n4_ n5_ n6_; clear hb hbox hg; have hnb9 := NB197_198.out; have hnc9 := NB198_197.out; have hcz10_0 := bc_ BK197 0 (.int .i64 a0_0) rfl; have hcz10_1 := bc_ BK197 1 (.int .i64 a0_1) rfl; have hcz10_2 := bc_ BK197 2 (.int .i64 a0_2) rfl; have hcz10_3 := bc_ BK197 3 (.int .i64 a0_3) rfl; have hcz10_4 := bc_ BK197 4 (.slice A0_4 l0_4.length c0_4) rfl; have hfz10_0 := blk_frozen BK197.out 0; have hfz10_1 := blk_frozen BK197.out 1; have hfz10_2 := blk_frozen BK197.out 2; have hfz10_3 := blk_frozen BK197.out 3; have hfz10_4 := blk_frozen BK197.out 4) | ((with_reducible refine gate_callee (f := 16) rfl ?_); refine goesL_ (some 9) rfl rfl Try.func16 (by kernel_rfl) rfl #[.agg #[.int .i64 a0_0, .int .i64 a0_1, .int .i64 a0_2, .int .i64 a0_3, .slice A0_4 l0_4.length c0_4]] rfl mt_ ?_; (with_reducible refine (spec_FairOk.calls k a0_0 a0_1 a0_2 a0_3 _ _ l0_4 true _ ?side1 ?side2 A3.out).mono ?_); (case side1 => repeat (first | exact (Kd.C_below HR0_4.out HB.out) | (with_reducible refine Kd.C_alloc ?_ _) | (with_reducible refine Kd.C_drewN ?_ _) | (with_reducible refine Kd.C_drew ?_))); (case side2 => exact HC0_4.out); rintro e w11 ⟨rfl, hb⟩; refine ⟨_, rfl, ?_⟩; have n0_ := bb_ BK197 hb; have n1_ := bb_ BK198 hb; have n2_ := Aside0.mk (below_step (bf_ HB) hb); clear BK197; clear BK198; clear HB; have BK197 := n0_; have BK198 := n1_; have HB := n2_; clear n0_ n1_ n2_; (try clear hb); (try clear hb2); (try clear hk); (try clear hi); have hcz12_0 := bc_ BK197 0 (.int .i64 a0_0) rfl; have hcz12_1 := bc_ BK197 1 (.int .i64 a0_1) rfl; have hcz12_2 := bc_ BK197 2 (.int .i64 a0_2) rfl; have hcz12_3 := bc_ BK197 3 (.int .i64 a0_3) rfl; have hcz12_4 := bc_ BK197 4 (.slice A0_4 l0_4.length c0_4) rfl; have hfz12_0 := blk_frozen BK197.out 0; have hfz12_1 := blk_frozen BK197.out 1; have hfz12_2 := blk_frozen BK197.out 2; have hfz12_3 := blk_frozen BK197.out 3; have hfz12_4 := blk_frozen BK197.out 4) | ((with_reducible refine gate_callee (f := 57) rfl ?_); refine goesL_ (some 14) rfl rfl Try.func57 (by kernel_rfl) rfl #[.agg #[.int .i64 a0_0, .int .i64 a0_1, .int .i64 a0_2, .int .i64 a0_3, .slice A0_4 l0_4.length c0_4], .int .i64 a1] rfl mt_ ?_; (with_reducible refine (spec_l18At.calls k a0_0 a0_1 a0_2 a0_3 _ _ l0_4 a1 t200 _ ?side1 ?side2 A5.out).mono ?_); (case side1 => repeat (first | exact (Kd.C_below HR0_4.out HB.out) | (with_reducible refine Kd.C_alloc ?_ _) | (with_reducible refine Kd.C_drewN ?_ _) | (with_reducible refine Kd.C_drew ?_))); (case side2 => exact HC0_4.out); rintro e w13 ⟨rfl, hb⟩; refine ⟨_, rfl, ?_⟩; have n0_ := bb_ BK197 hb; have n1_ := bb_ BK198 hb; have n2_ := Aside0.mk (below_step (bf_ HB) hb); clear BK197; clear BK198; clear HB; have BK197 := n0_; have BK198 := n1_; have HB := n2_; clear n0_ n1_ n2_; (try clear hb); (try clear hb2); (try clear hk); (try clear hi); have hcz14_0 := bc_ BK198 0 (.int .i64 0) rfl; have hcz14_1 := bc_ BK198 1 (.int .i64 0) rfl; have hcz14_2 := bc_ BK198 2 (.int .i64 0) rfl; have hcz14_3 := bc_ BK198 3 (.int .i64 0) rfl; have hcz14_4 := bc_ BK198 4 (.slice none 0 0) rfl; have hfz14_0 := blk_frozen BK198.out 0; have hfz14_1 := blk_frozen BK198.out 1; have hfz14_2 := blk_frozen BK198.out 2; have hfz14_3 := blk_frozen BK198.out 3; have hfz14_4 := blk_frozen BK198.out 4))
   refine bodyPost_ret (results_ct rfl _ _ gb198 32 #[.int .i64 0, .int .i64 0, .int .i64 0, .int .i64 0, .slice none 0 0] (0, 0) _ rfl (by (with_reducible repeat (first | refine blk_drewN ?_ _ | refine blk_drew ?_ | refine blk_alloc ?_ _)); refine blk_put (cs := #[.int .i64 0, .int .i64 0, .int .i64 0, .int .i64 0, .slice none 0 0]) ?_ 4 _ rfl; (with_reducible repeat (first | refine blk_drewN ?_ _ | refine blk_drew ?_ | refine blk_alloc ?_ _)); refine blk_put (cs := #[.int .i64 0, .int .i64 0, .int .i64 0, .int .i64 0, .slice none 0 0]) ?_ 3 _ rfl; (with_reducible repeat (first | refine blk_drewN ?_ _ | refine blk_drew ?_ | refine blk_alloc ?_ _)); refine blk_put (cs := #[.int .i64 0, .int .i64 0, .int .i64 0, .int .i64 0, .slice none 0 0]) ?_ 2 _ rfl; (with_reducible repeat (first | refine blk_drewN ?_ _ | refine blk_drew ?_ | refine blk_alloc ?_ _)); refine blk_put (cs := #[.int .i64 0, .int .i64 0, .int .i64 0, .int .i64 0, .slice none 0 0]) ?_ 1 _ rfl; (with_reducible repeat (first | refine blk_drewN ?_ _ | refine blk_drew ?_ | refine blk_alloc ?_ _)); refine blk_put (cs := #[.int .i64 0, .int .i64 0, .int .i64 0, .int .i64 0, .slice none 0 0]) ?_ 0 _ rfl; exact bk_ BK198) Try.underlying32 rfl (by kernel_rfl)) rfl ?_
   exact ⟨_, by first | rfl | (simp [errW_none, errW_some] <;> rfl) | (simp [*, errW_none, errW_some] <;> rfl), by first | exact Kd.R_nil _ _ _ _ _ | exact Kd.N_nil _ _ _ _ _ | exact Kd.V_nil _ _ _ _ _ | exact Kd.Q_nil _ _ _ _ _ | exact Kd.S_nil _ _ _ _ _, bf_ HB⟩
  ·rw [if_neg c6] at H
   have c6b0 : decide (t200 < 0) = false := decide_eq_false c6
   clear c6
   by_cases c15 : 0 ≤ t200
   ·rw [if_pos c15] at H
    have c15b0 : decide (0 ≤ t200) = true := decide_eq_true c15
    clear c15
    by_cases c16 : t200 < (l0_4.length : Int)
    ·rw [if_pos c16] at H
     have c16b0 : decide (t200 < (l0_4.length : Int)) = true := decide_eq_true c16
     clear c16
     obtain ⟨bq17, hbq17⟩ : ∃ b_ : Bool, b_ = ((rd_T38 l0_4 t200).f2) := ⟨_, rfl⟩
     replace H : (if bq17 = true then (some (0, 0, 0, 0, ([] : List (S38)), 2)) else ((spec_l18Copy.f a0_0 a0_1 a0_2 a0_3 l0_4).bind fun bt202 => (if t200 < (bt202.2.2.2.2.length : Int) then ((some (bt202.2.2.2.2.set (t200 : Int).toNat (⟨(rd_T38 bt202.2.2.2.2 t200).f0, (rd_T38 bt202.2.2.2.2 t200).f1, true, (⟨(rd_T38 bt202.2.2.2.2 t200).f3.f0, (rd_T38 bt202.2.2.2.2 t200).f3.f1, (rd_T38 bt202.2.2.2.2 t200).f3.f2⟩ : S29)⟩ : S38) : List (S38))).bind fun y210 => ((spec_VecMost.f ((rd_T38 l0_4 t200).f3.f0) ((rd_T38 l0_4 t200).f3.f1) ((rd_T38 l0_4 t200).f3.f2) a0_1 a0_2 a0_3).bind fun bt212 => (some (bt202.1, bt202.2.1, bt202.2.2.1, bt202.2.2.2.1, (y210.set (t200 : Int).toNat (⟨(rd_T38 y210 t200).f0, (rd_T38 y210 t200).f1, (rd_T38 y210 t200).f2, (⟨bt212.1, bt212.2.1, bt212.2.2⟩ : S29)⟩ : S38)), 0)))) else (none)))) = some (r1, r2, r3, r4, r5, r6) := by rw [← hbq17] at H; exact H
     have Nbq17 := Aside0.mk hbq17
     clear hbq17
     by_cases c18 : bq17 = true
     ·subst c18
      have H1 : (some (0, 0, 0, 0, ([] : List (S38)), 2)) = some (r1, r2, r3, r4, r5, r6) := by rw [if_pos rfl] at H; exact H
      clear H
      have H := H1
      clear H1
      simp only [Option.some.injEq, Prod.mk.injEq] at H
      obtain ⟨rfl, rfl, rfl, rfl, rfl, rfl⟩ := H
      go_enter Try.func33, Try.ntmps33
      go_wp2_with (first | ((with_reducible refine gate_dst (N := 2) rfl ?_); refine box_event ?hg (N := 2) ?hd (cs := #[.int .i64 a0_0, .int .i64 a0_1, .int .i64 a0_2, .int .i64 a0_3, .slice A0_4 l0_4.length c0_4]) (t := 32) ?hr ?_; (case hd => rfl); (case hg => rfl); (case hr => first | (go_simp; done) | (go_simp; rfl)); intro gb197 hg w19 hbox hb; have n0_ := Aside0.mk (below_step (be_ HB) hb); have n1_ := Aside0.mk (hbox); have n2_ := gw_ HB hg; have n3_ := gw_ HB hg; clear HB; have HB := n0_; have BK197 := n1_; have GW197 := n2_; have GE197 := n3_; clear n0_ n1_ n2_ n3_; clear hb hbox hg) | ((with_reducible refine gate_dst (N := 4) rfl ?_); refine box_event ?hg (N := 4) ?hd (cs := #[.int .i64 0, .int .i64 0, .int .i64 0, .int .i64 0, .slice none 0 0]) (t := 32) ?hr ?_; (case hd => rfl); (case hg => rfl); (case hr => first | (go_simp; done) | (go_simp; rfl)); intro gb198 hg w20 hbox hb; have n0_ := bb_ BK197 hb; have n1_ := Aside0.mk (below_step (bf_ HB) hb); have n2_ := Aside0.mk (hbox); have n3_ := gw_ HB hg; have n4_ := gw_ HB hg; have n5_ := nl_ BK197 hg; have n6_ := ng_ BK197 hg; clear BK197; clear HB; have BK197 := n0_; have HB := n1_; have BK198 := n2_; have GW198 := n3_; have GE198 := n4_; have NB197_198 := n5_; have NB198_197 := n6_; clear n0_ n1_ n2_ n3_ n4_ n5_ n6_; clear hb hbox hg; have hnb21 := NB197_198.out; have hnc21 := NB198_197.out; have hcz22_0 := bc_ BK197 0 (.int .i64 a0_0) rfl; have hcz22_1 := bc_ BK197 1 (.int .i64 a0_1) rfl; have hcz22_2 := bc_ BK197 2 (.int .i64 a0_2) rfl; have hcz22_3 := bc_ BK197 3 (.int .i64 a0_3) rfl; have hcz22_4 := bc_ BK197 4 (.slice A0_4 l0_4.length c0_4) rfl; have hfz22_0 := blk_frozen BK197.out 0; have hfz22_1 := blk_frozen BK197.out 1; have hfz22_2 := blk_frozen BK197.out 2; have hfz22_3 := blk_frozen BK197.out 3; have hfz22_4 := blk_frozen BK197.out 4) | ((with_reducible refine gate_callee (f := 16) rfl ?_); refine goesL_ (some 9) rfl rfl Try.func16 (by kernel_rfl) rfl #[.agg #[.int .i64 a0_0, .int .i64 a0_1, .int .i64 a0_2, .int .i64 a0_3, .slice A0_4 l0_4.length c0_4]] rfl mt_ ?_; (with_reducible refine (spec_FairOk.calls k a0_0 a0_1 a0_2 a0_3 _ _ l0_4 true _ ?side1 ?side2 A3.out).mono ?_); (case side1 => repeat (first | exact (Kd.C_below HR0_4.out HB.out) | (with_reducible refine Kd.C_alloc ?_ _) | (with_reducible refine Kd.C_drewN ?_ _) | (with_reducible refine Kd.C_drew ?_))); (case side2 => exact HC0_4.out); rintro e w23 ⟨rfl, hb⟩; refine ⟨_, rfl, ?_⟩; have n0_ := bb_ BK197 hb; have n1_ := bb_ BK198 hb; have n2_ := Aside0.mk (below_step (bf_ HB) hb); clear BK197; clear BK198; clear HB; have BK197 := n0_; have BK198 := n1_; have HB := n2_; clear n0_ n1_ n2_; (try clear hb); (try clear hb2); (try clear hk); (try clear hi); have hcz24_0 := bc_ BK197 0 (.int .i64 a0_0) rfl; have hcz24_1 := bc_ BK197 1 (.int .i64 a0_1) rfl; have hcz24_2 := bc_ BK197 2 (.int .i64 a0_2) rfl; have hcz24_3 := bc_ BK197 3 (.int .i64 a0_3) rfl; have hcz24_4 := bc_ BK197 4 (.slice A0_4 l0_4.length c0_4) rfl; have hfz24_0 := blk_frozen BK197.out 0; have hfz24_1 := blk_frozen BK197.out 1; have hfz24_2 := blk_frozen BK197.out 2; have hfz24_3 := blk_frozen BK197.out 3; have hfz24_4 := blk_frozen BK197.out 4) | ((with_reducible refine gate_callee (f := 57) rfl ?_); refine goesL_ (some 14) rfl rfl Try.func57 (by kernel_rfl) rfl #[.agg #[.int .i64 a0_0, .int .i64 a0_1, .int .i64 a0_2, .int .i64 a0_3, .slice A0_4 l0_4.length c0_4], .int .i64 a1] rfl mt_ ?_; (with_reducible refine (spec_l18At.calls k a0_0 a0_1 a0_2 a0_3 _ _ l0_4 a1 t200 _ ?side1 ?side2 A5.out).mono ?_); (case side1 => repeat (first | exact (Kd.C_below HR0_4.out HB.out) | (with_reducible refine Kd.C_alloc ?_ _) | (with_reducible refine Kd.C_drewN ?_ _) | (with_reducible refine Kd.C_drew ?_))); (case side2 => exact HC0_4.out); rintro e w25 ⟨rfl, hb⟩; refine ⟨_, rfl, ?_⟩; have n0_ := bb_ BK197 hb; have n1_ := bb_ BK198 hb; have n2_ := Aside0.mk (below_step (bf_ HB) hb); clear BK197; clear BK198; clear HB; have BK197 := n0_; have BK198 := n1_; have HB := n2_; clear n0_ n1_ n2_; (try clear hb); (try clear hb2); (try clear hk); (try clear hi); have hcz26_0 := bc_ BK197 0 (.int .i64 a0_0) rfl; have hcz26_1 := bc_ BK197 1 (.int .i64 a0_1) rfl; have hcz26_2 := bc_ BK197 2 (.int .i64 a0_2) rfl; have hcz26_3 := bc_ BK197 3 (.int .i64 a0_3) rfl; have hcz26_4 := bc_ BK197 4 (.slice A0_4 l0_4.length c0_4) rfl; have hfz26_0 := blk_frozen BK197.out 0; have hfz26_1 := blk_frozen BK197.out 1; have hfz26_2 := blk_frozen BK197.out 2; have hfz26_3 := blk_frozen BK197.out 3; have hfz26_4 := blk_frozen BK197.out 4; have p201 : 0 ≤ (t200 : Int) := of_decide_eq_true (by first | (with_reducible assumption) | assumption); have q201 : t200 < (l0_4.length : Int) := of_decide_eq_true (by first | (with_reducible assumption) | assumption); obtain ⟨ad201, e201, hx201_0, hx201_1, hx201_2, hx201_3, hx201_4, hx201_5⟩ := at_T38 HR0_4.out t200 p201 q201; (try rw [← Nbq17.out] at hx201_2); cases e201; replace hx201_0 := (HB.out.cell (World.block_lt_of_cell? w _ hx201_0)).trans hx201_0; replace hx201_1 := (HB.out.cell (World.block_lt_of_cell? w _ hx201_1)).trans hx201_1; replace hx201_2 := (HB.out.cell (World.block_lt_of_cell? w _ hx201_2)).trans hx201_2; replace hx201_3 := (HB.out.cell (World.block_lt_of_cell? w _ hx201_3)).trans hx201_3; replace hx201_4 := (HB.out.cell (World.block_lt_of_cell? w _ hx201_4)).trans hx201_4; replace hx201_5 := (HB.out.cell (World.block_lt_of_cell? w _ hx201_5)).trans hx201_5; replace p201 := eq_true p201; replace q201 := eq_true q201; have hcz27_0 := bc_ BK198 0 (.int .i64 0) rfl; have hcz27_1 := bc_ BK198 1 (.int .i64 0) rfl; have hcz27_2 := bc_ BK198 2 (.int .i64 0) rfl; have hcz27_3 := bc_ BK198 3 (.int .i64 0) rfl; have hcz27_4 := bc_ BK198 4 (.slice none 0 0) rfl; have hfz27_0 := blk_frozen BK198.out 0; have hfz27_1 := blk_frozen BK198.out 1; have hfz27_2 := blk_frozen BK198.out 2; have hfz27_3 := blk_frozen BK198.out 3; have hfz27_4 := blk_frozen BK198.out 4))
      refine bodyPost_ret (results_ct rfl _ _ gb198 32 #[.int .i64 0, .int .i64 0, .int .i64 0, .int .i64 0, .slice none 0 0] (0, 0) _ rfl (by (with_reducible repeat (first | refine blk_drewN ?_ _ | refine blk_drew ?_ | refine blk_alloc ?_ _)); refine blk_put (cs := #[.int .i64 0, .int .i64 0, .int .i64 0, .int .i64 0, .slice none 0 0]) ?_ 4 _ rfl; (with_reducible repeat (first | refine blk_drewN ?_ _ | refine blk_drew ?_ | refine blk_alloc ?_ _)); refine blk_put (cs := #[.int .i64 0, .int .i64 0, .int .i64 0, .int .i64 0, .slice none 0 0]) ?_ 3 _ rfl; (with_reducible repeat (first | refine blk_drewN ?_ _ | refine blk_drew ?_ | refine blk_alloc ?_ _)); refine blk_put (cs := #[.int .i64 0, .int .i64 0, .int .i64 0, .int .i64 0, .slice none 0 0]) ?_ 2 _ rfl; (with_reducible repeat (first | refine blk_drewN ?_ _ | refine blk_drew ?_ | refine blk_alloc ?_ _)); refine blk_put (cs := #[.int .i64 0, .int .i64 0, .int .i64 0, .int .i64 0, .slice none 0 0]) ?_ 1 _ rfl; (with_reducible repeat (first | refine blk_drewN ?_ _ | refine blk_drew ?_ | refine blk_alloc ?_ _)); refine blk_put (cs := #[.int .i64 0, .int .i64 0, .int .i64 0, .int .i64 0, .slice none 0 0]) ?_ 0 _ rfl; exact bk_ BK198) Try.underlying32 rfl (by kernel_rfl)) rfl ?_
      exact ⟨_, by first | rfl | (simp [errW_none, errW_some] <;> rfl) | (simp [*, errW_none, errW_some] <;> rfl), by first | exact Kd.R_nil _ _ _ _ _ | exact Kd.N_nil _ _ _ _ _ | exact Kd.V_nil _ _ _ _ _ | exact Kd.Q_nil _ _ _ _ _ | exact Kd.S_nil _ _ _ _ _, bf_ HB⟩
     ·replace c18 := Bool.eq_false_iff.mpr c18
      subst c18
      have H1 : ((spec_l18Copy.f a0_0 a0_1 a0_2 a0_3 l0_4).bind fun bt202 => (if t200 < (bt202.2.2.2.2.length : Int) then ((some (bt202.2.2.2.2.set (t200 : Int).toNat (⟨(rd_T38 bt202.2.2.2.2 t200).f0, (rd_T38 bt202.2.2.2.2 t200).f1, true, (⟨(rd_T38 bt202.2.2.2.2 t200).f3.f0, (rd_T38 bt202.2.2.2.2 t200).f3.f1, (rd_T38 bt202.2.2.2.2 t200).f3.f2⟩ : S29)⟩ : S38) : List (S38))).bind fun y210 => ((spec_VecMost.f ((rd_T38 l0_4 t200).f3.f0) ((rd_T38 l0_4 t200).f3.f1) ((rd_T38 l0_4 t200).f3.f2) a0_1 a0_2 a0_3).bind fun bt212 => (some (bt202.1, bt202.2.1, bt202.2.2.1, bt202.2.2.2.1, (y210.set (t200 : Int).toNat (⟨(rd_T38 y210 t200).f0, (rd_T38 y210 t200).f1, (rd_T38 y210 t200).f2, (⟨bt212.1, bt212.2.1, bt212.2.2⟩ : S29)⟩ : S38)), 0)))) else (none))) = some (r1, r2, r3, r4, r5, r6) := by rw [if_neg (show ¬ (false = true) by decide)] at H; exact H
      clear H
      have H := H1
      clear H1
      replace H := Option.bind_eq_some_iff.mp H
      obtain ⟨⟨t202, t203, t204, t205, t206⟩, A280, H⟩ := H
      replace H : (if t200 < (t206.length : Int) then ((some (t206.set (t200 : Int).toNat (⟨(rd_T38 t206 t200).f0, (rd_T38 t206 t200).f1, true, (⟨(rd_T38 t206 t200).f3.f0, (rd_T38 t206 t200).f3.f1, (rd_T38 t206 t200).f3.f2⟩ : S29)⟩ : S38) : List (S38))).bind fun y210 => ((spec_VecMost.f ((rd_T38 l0_4 t200).f3.f0) ((rd_T38 l0_4 t200).f3.f1) ((rd_T38 l0_4 t200).f3.f2) a0_1 a0_2 a0_3).bind fun bt212 => (some (t202, t203, t204, t205, (y210.set (t200 : Int).toNat (⟨(rd_T38 y210 t200).f0, (rd_T38 y210 t200).f1, (rd_T38 y210 t200).f2, (⟨bt212.1, bt212.2.1, bt212.2.2⟩ : S29)⟩ : S38)), 0)))) else (none)) = some (r1, r2, r3, r4, r5, r6) := H
      have A28 := Aside0.mk A280
      clear A280
      by_cases c29 : t200 < (t206.length : Int)
      ·rw [if_pos c29] at H
       have c29b0 : decide (t200 < (t206.length : Int)) = true := decide_eq_true c29
       clear c29
       obtain ⟨y210, hy210⟩ : ∃ y_ : List (S38), y_ = (t206.set (t200 : Int).toNat (⟨(rd_T38 t206 t200).f0, (rd_T38 t206 t200).f1, true, (⟨(rd_T38 t206 t200).f3.f0, (rd_T38 t206 t200).f3.f1, (rd_T38 t206 t200).f3.f2⟩ : S29)⟩ : S38)) := ⟨_, rfl⟩
       replace H : ((spec_VecMost.f ((rd_T38 l0_4 t200).f3.f0) ((rd_T38 l0_4 t200).f3.f1) ((rd_T38 l0_4 t200).f3.f2) a0_1 a0_2 a0_3).bind fun bt212 => (some (t202, t203, t204, t205, (y210.set (t200 : Int).toNat (⟨(rd_T38 y210 t200).f0, (rd_T38 y210 t200).f1, (rd_T38 y210 t200).f2, (⟨bt212.1, bt212.2.1, bt212.2.2⟩ : S29)⟩ : S38)), 0))) = some (r1, r2, r3, r4, r5, r6) := by first | (rw [hy210]; with_reducible exact H) | (have H2_ := (Option.bind_some _ _).symm.trans H; rw [hy210]; with_reducible exact H2_) | (have H2_ := (Option.bind_some _ _).symm.trans H; with_reducible exact H2_) | with_reducible exact H | (rw [hy210]; exact H) | exact H
       have Ny210 := Aside0.mk hy210
       clear hy210
       replace H := Option.bind_eq_some_iff.mp H
       obtain ⟨⟨t212, t213, t214⟩, A310, H⟩ := H
       replace H : (some (t202, t203, t204, t205, (y210.set (t200 : Int).toNat (⟨(rd_T38 y210 t200).f0, (rd_T38 y210 t200).f1, (rd_T38 y210 t200).f2, (⟨t212, t213, t214⟩ : S29)⟩ : S38)), 0)) = some (r1, r2, r3, r4, r5, r6) := H
       have A31 := Aside0.mk A310
       clear A310
       obtain ⟨y215, hy215⟩ : ∃ y_ : List (S38), y_ = (y210.set (t200 : Int).toNat (⟨(rd_T38 y210 t200).f0, (rd_T38 y210 t200).f1, (rd_T38 y210 t200).f2, (⟨t212, t213, t214⟩ : S29)⟩ : S38)) := ⟨_, rfl⟩
       replace H : (some (t202, t203, t204, t205, y215, 0)) = some (r1, r2, r3, r4, r5, r6) := by first | (rw [hy215]; with_reducible exact H) | (have H2_ := (Option.bind_some _ _).symm.trans H; rw [hy215]; with_reducible exact H2_) | (have H2_ := (Option.bind_some _ _).symm.trans H; with_reducible exact H2_) | with_reducible exact H | (rw [hy215]; exact H) | exact H
       have Ny215 := Aside0.mk hy215
       clear hy215
       simp only [Option.some.injEq, Prod.mk.injEq] at H
       obtain ⟨rfl, rfl, rfl, rfl, rfl, rfl⟩ := H
       go_enter Try.func33, Try.ntmps33
       try go_wp2_with (first | ((with_reducible refine gate_dst (N := 2) rfl ?_); refine box_event ?hg (N := 2) ?hd (cs := #[.int .i64 a0_0, .int .i64 a0_1, .int .i64 a0_2, .int .i64 a0_3, .slice A0_4 l0_4.length c0_4]) (t := 32) ?hr ?_; (case hd => rfl); (case hg => rfl); (case hr => first | (go_simp; done) | (go_simp; rfl)); intro gb197 hg w33 hbox hb; have n0_ := Aside0.mk (below_step (be_ HB) hb); have n1_ := Aside0.mk (hbox); have n2_ := gw_ HB hg; have n3_ := gw_ HB hg; clear HB; have HB := n0_; have BK197 := n1_; have GW197 := n2_; have GE197 := n3_; clear n0_ n1_ n2_ n3_; clear hb hbox hg) | ((with_reducible refine gate_dst (N := 4) rfl ?_); refine box_event ?hg (N := 4) ?hd (cs := #[.int .i64 0, .int .i64 0, .int .i64 0, .int .i64 0, .slice none 0 0]) (t := 32) ?hr ?_; (case hd => rfl); (case hg => rfl); (case hr => first | (go_simp; done) | (go_simp; rfl)); intro gb198 hg w34 hbox hb; have n0_ := bb_ BK197 hb; have n1_ := Aside0.mk (below_step (bf_ HB) hb); have n2_ := Aside0.mk (hbox); have n3_ := gw_ HB hg; have n4_ := gw_ HB hg; have n5_ := nl_ BK197 hg; have n6_ := ng_ BK197 hg; clear BK197; clear HB; have BK197 := n0_; have HB := n1_; have BK198 := n2_; have GW198 := n3_; have GE198 := n4_; have NB197_198 := n5_; have NB198_197 := n6_; clear n0_ n1_ n2_ n3_ n4_ n5_ n6_; clear hb hbox hg; have hnb35 := NB197_198.out; have hnc35 := NB198_197.out; have hcz36_0 := bc_ BK197 0 (.int .i64 a0_0) rfl; have hcz36_1 := bc_ BK197 1 (.int .i64 a0_1) rfl; have hcz36_2 := bc_ BK197 2 (.int .i64 a0_2) rfl; have hcz36_3 := bc_ BK197 3 (.int .i64 a0_3) rfl; have hcz36_4 := bc_ BK197 4 (.slice A0_4 l0_4.length c0_4) rfl; have hfz36_0 := blk_frozen BK197.out 0; have hfz36_1 := blk_frozen BK197.out 1; have hfz36_2 := blk_frozen BK197.out 2; have hfz36_3 := blk_frozen BK197.out 3; have hfz36_4 := blk_frozen BK197.out 4) | ((with_reducible refine gate_callee (f := 16) rfl ?_); refine goesL_ (some 9) rfl rfl Try.func16 (by kernel_rfl) rfl #[.agg #[.int .i64 a0_0, .int .i64 a0_1, .int .i64 a0_2, .int .i64 a0_3, .slice A0_4 l0_4.length c0_4]] rfl mt_ ?_; (with_reducible refine (spec_FairOk.calls k a0_0 a0_1 a0_2 a0_3 _ _ l0_4 true _ ?side1 ?side2 A3.out).mono ?_); (case side1 => repeat (first | exact (Kd.C_below HR0_4.out HB.out) | (with_reducible refine Kd.C_alloc ?_ _) | (with_reducible refine Kd.C_drewN ?_ _) | (with_reducible refine Kd.C_drew ?_))); (case side2 => exact HC0_4.out); rintro e w37 ⟨rfl, hb⟩; refine ⟨_, rfl, ?_⟩; have n0_ := bb_ BK197 hb; have n1_ := bb_ BK198 hb; have n2_ := Aside0.mk (below_step (bf_ HB) hb); clear BK197; clear BK198; clear HB; have BK197 := n0_; have BK198 := n1_; have HB := n2_; clear n0_ n1_ n2_; (try clear hb); (try clear hb2); (try clear hk); (try clear hi); have hcz38_0 := bc_ BK197 0 (.int .i64 a0_0) rfl; have hcz38_1 := bc_ BK197 1 (.int .i64 a0_1) rfl; have hcz38_2 := bc_ BK197 2 (.int .i64 a0_2) rfl; have hcz38_3 := bc_ BK197 3 (.int .i64 a0_3) rfl; have hcz38_4 := bc_ BK197 4 (.slice A0_4 l0_4.length c0_4) rfl; have hfz38_0 := blk_frozen BK197.out 0; have hfz38_1 := blk_frozen BK197.out 1; have hfz38_2 := blk_frozen BK197.out 2; have hfz38_3 := blk_frozen BK197.out 3; have hfz38_4 := blk_frozen BK197.out 4) | ((with_reducible refine gate_callee (f := 57) rfl ?_); refine goesL_ (some 14) rfl rfl Try.func57 (by kernel_rfl) rfl #[.agg #[.int .i64 a0_0, .int .i64 a0_1, .int .i64 a0_2, .int .i64 a0_3, .slice A0_4 l0_4.length c0_4], .int .i64 a1] rfl mt_ ?_; (with_reducible refine (spec_l18At.calls k a0_0 a0_1 a0_2 a0_3 _ _ l0_4 a1 t200 _ ?side1 ?side2 A5.out).mono ?_); (case side1 => repeat (first | exact (Kd.C_below HR0_4.out HB.out) | (with_reducible refine Kd.C_alloc ?_ _) | (with_reducible refine Kd.C_drewN ?_ _) | (with_reducible refine Kd.C_drew ?_))); (case side2 => exact HC0_4.out); rintro e w39 ⟨rfl, hb⟩; refine ⟨_, rfl, ?_⟩; have n0_ := bb_ BK197 hb; have n1_ := bb_ BK198 hb; have n2_ := Aside0.mk (below_step (bf_ HB) hb); clear BK197; clear BK198; clear HB; have BK197 := n0_; have BK198 := n1_; have HB := n2_; clear n0_ n1_ n2_; (try clear hb); (try clear hb2); (try clear hk); (try clear hi); have hcz40_0 := bc_ BK197 0 (.int .i64 a0_0) rfl; have hcz40_1 := bc_ BK197 1 (.int .i64 a0_1) rfl; have hcz40_2 := bc_ BK197 2 (.int .i64 a0_2) rfl; have hcz40_3 := bc_ BK197 3 (.int .i64 a0_3) rfl; have hcz40_4 := bc_ BK197 4 (.slice A0_4 l0_4.length c0_4) rfl; have hfz40_0 := blk_frozen BK197.out 0; have hfz40_1 := blk_frozen BK197.out 1; have hfz40_2 := blk_frozen BK197.out 2; have hfz40_3 := blk_frozen BK197.out 3; have hfz40_4 := blk_frozen BK197.out 4; have p201 : 0 ≤ (t200 : Int) := of_decide_eq_true (by first | (with_reducible assumption) | assumption); have q201 : t200 < (l0_4.length : Int) := of_decide_eq_true (by first | (with_reducible assumption) | assumption); obtain ⟨ad201, e201, hx201_0, hx201_1, hx201_2, hx201_3, hx201_4, hx201_5⟩ := at_T38 HR0_4.out t200 p201 q201; (try rw [← Nbq17.out] at hx201_2); cases e201; replace hx201_0 := (HB.out.cell (World.block_lt_of_cell? w _ hx201_0)).trans hx201_0; replace hx201_1 := (HB.out.cell (World.block_lt_of_cell? w _ hx201_1)).trans hx201_1; replace hx201_2 := (HB.out.cell (World.block_lt_of_cell? w _ hx201_2)).trans hx201_2; replace hx201_3 := (HB.out.cell (World.block_lt_of_cell? w _ hx201_3)).trans hx201_3; replace hx201_4 := (HB.out.cell (World.block_lt_of_cell? w _ hx201_4)).trans hx201_4; replace hx201_5 := (HB.out.cell (World.block_lt_of_cell? w _ hx201_5)).trans hx201_5; replace p201 := eq_true p201; replace q201 := eq_true q201) | ((with_reducible refine gate_callee (f := 61) rfl ?_); refine goesL_ (some 26) rfl rfl Try.func61 (by kernel_rfl) rfl #[.agg #[.int .i64 a0_0, .int .i64 a0_1, .int .i64 a0_2, .int .i64 a0_3, .slice (some ad201) l0_4.length c0_4]] rfl mt_ ?_; (with_reducible refine (spec_l18Copy.calls a0_0 a0_1 a0_2 a0_3 _ _ l0_4 t202 t203 t204 t205 t206 _ ?side1 ?side2 A28.out).mono ?_); (case side1 => repeat (first | exact (Kd.C_below HR0_4.out HB.out) | (with_reducible refine Kd.C_alloc ?_ _) | (with_reducible refine Kd.C_drewN ?_ _) | (with_reducible refine Kd.C_drew ?_))); (case side2 => exact HC0_4.out); rintro e w41 ⟨v207, rfl, ho0, hb⟩; refine ⟨_, rfl, ?_⟩; have n0_ := Aside0.mk (Kd.R_lower ho0 (below_size (bf_ HB))); have n1_ := bb_ BK197 hb; have n2_ := bb_ BK198 hb; have n3_ := Aside0.mk (below_step (bf_ HB) hb); clear BK197; clear BK198; clear HB; have HO208 := n0_; have BK197 := n1_; have BK198 := n2_; have HB := n3_; clear n0_ n1_ n2_ n3_; (try clear hb); (try clear hb2); (try clear hk); (try clear hi); (try clear ho0)) | ((with_reducible refine gate_dst (N := 7) rfl ?_); refine box_event ?hg (N := 7) ?hd (cs := #[.int .i64 0, .int .i64 0, .int .i64 0, .int .i64 0, .slice none 0 0]) (t := 32) ?hr ?_; (case hd => rfl); (case hg => rfl); (case hr => first | (go_simp; done) | (go_simp; rfl)); intro gb209 hg w42 hbox hb; have n0_ := Aside0.mk (Kd.R_below (kr_ HO208) hb); have n1_ := bb_ BK197 hb; have n2_ := bb_ BK198 hb; have n3_ := Aside0.mk (below_step (bf_ HB) hb); have n4_ := Aside0.mk (hbox); have n5_ := gw_ HB hg; have n6_ := gw_ HB hg; have n7_ := nl_ BK197 hg; have n8_ := ng_ BK197 hg; have n9_ := nl_ BK198 hg; have n10_ := ng_ BK198 hg; clear HO208; clear BK197; clear BK198; clear HB; have HO208 := n0_; have BK197 := n1_; have BK198 := n2_; have HB := n3_; have BK209 := n4_; have GW209 := n5_; have GE209 := n6_; have NB197_209 := n7_; have NB209_197 := n8_; have NB198_209 := n9_; have NB209_198 := n10_; clear n0_ n1_ n2_ n3_ n4_ n5_ n6_ n7_ n8_ n9_ n10_; clear hb hbox hg; have hnb43 := NB209_197.out; have hnc43 := NB197_209.out; have hnb44 := NB209_198.out; have hnc44 := NB198_209.out; have hcz45_0 := bc_ BK209 0 (.int .i64 0) rfl; have hcz45_1 := bc_ BK209 1 (.int .i64 0) rfl; have hcz45_2 := bc_ BK209 2 (.int .i64 0) rfl; have hcz45_3 := bc_ BK209 3 (.int .i64 0) rfl; have hcz45_4 := bc_ BK209 4 (.slice none 0 0) rfl; have hfz45_0 := blk_frozen BK209.out 0; have hfz45_1 := blk_frozen BK209.out 1; have hfz45_2 := blk_frozen BK209.out 2; have hfz45_3 := blk_frozen BK209.out 3; have hfz45_4 := blk_frozen BK209.out 4; obtain ⟨Ao46, co46, eo46⟩ := Kd.R_slice HO208.out; subst eo46) | ((with_reducible refine gate_store (t := 32) (p := 7) rfl ?_); refine store_event (t := 32) (p := 7) (v := ?vo_w47) (w1 := (((((w42.setCell ⟨gb209, 0, none⟩ (.int .i64 t202)).setCell ⟨gb209, 1, none⟩ (.int .i64 t203)).setCell ⟨gb209, 2, none⟩ (.int .i64 t204)).setCell ⟨gb209, 3, none⟩ (.int .i64 t205)).setCell ⟨gb209, 4, none⟩ (.slice Ao46 t206.length co46))) ?hg ?ho ?hn ?hr ?_; (case ho => rfl); (case hg => rfl); (case hn => rfl); (case hr => first | (go_simp; done) | (go_simp; rfl)); intro w47 hw; have n0_ : Aside0 (Kd.R k38 38 w47 w.heap.size (fun _ => True) (.slice Ao46 t206.length co46) t206) := ⟨(by rw [hw]; exact (by (with_reducible repeat (first | apply Kd.R_alloc | apply Kd.R_drewN | apply Kd.R_drew)); exact Kd.R_mono (Kd.R_far (p := ⟨gb209, 4, none⟩) (Kd.R_far (p := ⟨gb209, 3, none⟩) (Kd.R_far (p := ⟨gb209, 2, none⟩) (Kd.R_far (p := ⟨gb209, 1, none⟩) (Kd.R_far (p := ⟨gb209, 0, none⟩) (Kd.R_types HO208.out BK209.out (by decide)) (fun _ hk => by first | exact hk.2 | grind) (.int .i64 t202)) (fun _ hk => by first | exact hk.2 | grind) (.int .i64 t203)) (fun _ hk => by first | exact hk.2 | grind) (.int .i64 t204)) (fun _ hk => by first | exact hk.2 | grind) (.int .i64 t205)) (fun _ hk => by first | exact hk.2 | grind) (.slice Ao46 t206.length co46)) (fun _ hk => by first | exact trivial | grind)))⟩; have n1_ : Aside0 (w47.heap[gb197]? = some (.cells #[.int .i64 a0_0, .int .i64 a0_1, .int .i64 a0_2, .int .i64 a0_3, .slice (some ad201) l0_4.length c0_4] 32 (0, 0))) := ⟨(by rw [hw]; exact (bl_ BK197))⟩; have n2_ : Aside0 (w47.heap[gb198]? = some (.cells #[.int .i64 0, .int .i64 0, .int .i64 0, .int .i64 0, .slice none 0 0] 32 (0, 0))) := ⟨(by rw [hw]; exact (bl_ BK198))⟩; have n3_ : Aside0 (w47.heap[gb209]? = some (.cells #[.int .i64 t202, .int .i64 t203, .int .i64 t204, .int .i64 t205, .slice Ao46 t206.length co46] 32 (0, 0))) := ⟨(by rw [hw]; exact (by (with_reducible repeat (first | refine blk_drewN ?_ _ | refine blk_drew ?_ | refine blk_alloc ?_ _)); refine blk_put (cs := #[.int .i64 t202, .int .i64 t203, .int .i64 t204, .int .i64 t205, .slice none 0 0]) ?_ 4 _ rfl; (with_reducible repeat (first | refine blk_drewN ?_ _ | refine blk_drew ?_ | refine blk_alloc ?_ _)); refine blk_put (cs := #[.int .i64 t202, .int .i64 t203, .int .i64 t204, .int .i64 0, .slice none 0 0]) ?_ 3 _ rfl; (with_reducible repeat (first | refine blk_drewN ?_ _ | refine blk_drew ?_ | refine blk_alloc ?_ _)); refine blk_put (cs := #[.int .i64 t202, .int .i64 t203, .int .i64 0, .int .i64 0, .slice none 0 0]) ?_ 2 _ rfl; (with_reducible repeat (first | refine blk_drewN ?_ _ | refine blk_drew ?_ | refine blk_alloc ?_ _)); refine blk_put (cs := #[.int .i64 t202, .int .i64 0, .int .i64 0, .int .i64 0, .slice none 0 0]) ?_ 1 _ rfl; (with_reducible repeat (first | refine blk_drewN ?_ _ | refine blk_drew ?_ | refine blk_alloc ?_ _)); refine blk_put (cs := #[.int .i64 0, .int .i64 0, .int .i64 0, .int .i64 0, .slice none 0 0]) ?_ 0 _ rfl; exact bk_ BK209))⟩; have n4_ : Aside0 (Below w.heap.size w w47) := ⟨(by rw [hw]; exact (bf_ HB))⟩; clear hw; clear HO208; clear BK197; clear BK198; clear BK209; clear HB; have HO208 := n0_; have BK197 := n1_; have BK198 := n2_; have BK209 := n3_; have HB := n4_; clear n0_ n1_ n2_ n3_ n4_; have hcz48_0 := bc_ BK209 0 (.int .i64 t202) rfl; have hcz48_1 := bc_ BK209 1 (.int .i64 t203) rfl; have hcz48_2 := bc_ BK209 2 (.int .i64 t204) rfl; have hcz48_3 := bc_ BK209 3 (.int .i64 t205) rfl; have hcz48_4 := bc_ BK209 4 (.slice Ao46 t206.length co46) rfl; have hfz48_0 := blk_frozen BK209.out 0; have hfz48_1 := blk_frozen BK209.out 1; have hfz48_2 := blk_frozen BK209.out 2; have hfz48_3 := blk_frozen BK209.out 3; have hfz48_4 := blk_frozen BK209.out 4; have p30 : 0 ≤ (t200 : Int) := of_decide_eq_true (by first | (with_reducible assumption) | assumption); have q30 : (t200 : Int) < ((t206.length : Int) : Int) := of_decide_eq_true (by first | (with_reducible assumption) | assumption); obtain ⟨go30, co30, eo30, gb30, gl30, cl30, HG30⟩ := Kd.R_form HO208.out (by omega); (first | cases eo30 | (injection eo30 with ea_ en_ ec_; (first | subst ea_ | (injection ea_ with ea_; subst ea_)); subst ec_; clear en_)); have GB30 := Aside0.mk gb30; have GG30 := Aside0.mk HG30; clear gb30 gl30 HG30; obtain ⟨ce30, hcl30, hM30, hcc30, hfr30⟩ := Kd.R_elem HO208.out z38 (t200 : Int) p30 q30; obtain rfl := k38_openM hM30; have hx30_0 : w47.cell? ⟨go30, (t200 : Int).toNat * 6, none⟩ = some (.int .i64 ((rd_T38 t206 t200).f0)) := hcc30 0 _ rfl; have hx30_1 : w47.cell? ⟨go30, (t200 : Int).toNat * 6 + 1, none⟩ = some (.int .i64 ((rd_T38 t206 t200).f1)) := hcc30 1 _ rfl; have hx30_2 : w47.cell? ⟨go30, (t200 : Int).toNat * 6 + 2, none⟩ = some (.bool ((rd_T38 t206 t200).f2)) := hcc30 2 _ rfl; have hx30_3 : w47.cell? ⟨go30, (t200 : Int).toNat * 6 + 3, none⟩ = some (.int .i64 ((rd_T38 t206 t200).f3.f0)) := hcc30 3 _ rfl; have hx30_4 : w47.cell? ⟨go30, (t200 : Int).toNat * 6 + 4, none⟩ = some (.int .i64 ((rd_T38 t206 t200).f3.f1)) := hcc30 4 _ rfl; have hx30_5 : w47.cell? ⟨go30, (t200 : Int).toNat * 6 + 5, none⟩ = some (.int .i64 ((rd_T38 t206 t200).f3.f2)) := hcc30 5 _ rfl; have hf30_0 : w47.frozen? ⟨go30, (t200 : Int).toNat * 6, none⟩ = false := hfr30 0; have hf30_1 : w47.frozen? ⟨go30, (t200 : Int).toNat * 6 + 1, none⟩ = false := hfr30 1; have hf30_2 : w47.frozen? ⟨go30, (t200 : Int).toNat * 6 + 2, none⟩ = false := hfr30 2; have hf30_3 : w47.frozen? ⟨go30, (t200 : Int).toNat * 6 + 3, none⟩ = false := hfr30 3; have hf30_4 : w47.frozen? ⟨go30, (t200 : Int).toNat * 6 + 4, none⟩ = false := hfr30 4; have hf30_5 : w47.frozen? ⟨go30, (t200 : Int).toNat * 6 + 5, none⟩ = false := hfr30 5; clear hcl30 hcc30 hfr30 hM30; replace p30 := eq_true p30; replace q30 := eq_true q30; have HX49 := Aside0.mk (show Kd.R k38 38 w47 w.heap.size (fun _ => True) (.slice (some ⟨go30, 0, none⟩) t206.length co46) t206 from (kr_ HO208)); obtain ⟨ce49, hcl49, hM49, hcc49, hfr49⟩ := Kd.R_elem HX49.out z38 (t200 : Int) (of_decide_eq_true (by first | (with_reducible assumption) | assumption)) (by have h_ : (t200 : Int) < ((t206.length : Int) : Int) := of_decide_eq_true (by first | (with_reducible assumption) | assumption); first | exact h_ | (have e_ := (Kd.R_reads' HO208.out).1; omega) | simpa using h_); obtain rfl := k38_openM hM49; have HP49 := Kd.R_seg HX49.out (t200 : Int) (of_decide_eq_true (by first | (with_reducible assumption) | assumption)) (by have h_ : (t200 : Int) < ((t206.length : Int) : Int) := of_decide_eq_true (by first | (with_reducible assumption) | assumption); first | exact h_ | (have e_ := (Kd.R_reads' HO208.out).1; omega) | simpa using h_) (seg := [.bool true]) (j := 2) hcl49 hcc49 (show 3 ≤ 6 from by decide) (x' := (⟨(rd_T38 t206 t200).f0, (rd_T38 t206 t200).f1, true, (⟨(rd_T38 t206 t200).f3.f0, (rd_T38 t206 t200).f3.f1, (rd_T38 t206 t200).f3.f2⟩ : S29)⟩ : S38)) (k38_mkM _ _ _ (⟨(rd_T38 t206 t200).f0, (rd_T38 t206 t200).f1, true, (⟨(rd_T38 t206 t200).f3.f0, (rd_T38 t206 t200).f3.f1, (rd_T38 t206 t200).f3.f2⟩ : S29)⟩ : S38) ) (fun _ hk => by first | exact hk | grind); have hx49_2 := hcc49 2 _ rfl; (try simp only [show (k38).sz = 6 from rfl, Nat.mul_one, Nat.add_zero] at hx49_2); have hf49_2 := hfr49 2; (try simp only [show (k38).sz = 6 from rfl, Nat.mul_one, Nat.add_zero] at hf49_2); clear hcl49 hcc49 hfr49 hM49) | ((with_reducible refine gate_store (t := 4) (p := 31) rfl ?_); refine store_event (t := 4) (p := 31) (v := ?vo_w50) (w1 := (w47.setCell ⟨go30, (t200 : Int).toNat * 6 + 2, none⟩ (.bool true))) ?hg ?ho ?hn ?hr ?_; (case ho => rfl); (case hg => rfl); (case hn => rfl); (case hr => first | (go_simp; done) | (go_simp; rfl)); intro w50 hw; have hg : w47.grownBy w50 (some go30) := (by rw [hw]; exact HP49.2); have hp_ : Kd.R k38 38 w50 w.heap.size (fun _ => True) (.slice (some ⟨go30, 0, none⟩) t206.length co46) y210 := (by rw [hw, Ny210.out]; exact HP49.1); clear HP49; have n0_ := Aside0.mk (blk_grown (g := gb197) (o := .cells #[.int .i64 a0_0, .int .i64 a0_1, .int .i64 a0_2, .int .i64 a0_3, .slice (some ad201) l0_4.length c0_4] 32 (0, 0)) (bk_ BK197) hg (Kd.R_ne HO208.out BK197.out (by decide))); have n1_ := Aside0.mk (blk_grown (g := gb198) (o := .cells #[.int .i64 0, .int .i64 0, .int .i64 0, .int .i64 0, .slice none 0 0] 32 (0, 0)) (bk_ BK198) hg (Kd.R_ne HO208.out BK198.out (by decide))); have n2_ := Aside0.mk (hp_); have n3_ := Aside0.mk (blk_grown (g := gb209) (o := .cells #[.int .i64 t202, .int .i64 t203, .int .i64 t204, .int .i64 t205, .slice (some ⟨go30, 0, none⟩) t206.length co46] 32 (0, 0)) (bk_ BK209) hg (Kd.R_ne HO208.out BK209.out (by decide))); have n4_ := Aside0.mk ((by rw [hw]; exact below_set (HB.out) GB30.out : Below w.heap.size w w50)); clear BK197; clear BK198; clear HO208; clear BK209; clear HB; have BK197 := n0_; have BK198 := n1_; have HO208 := n2_; have BK209 := n3_; have HB := n4_; clear n0_ n1_ n2_ n3_ n4_; clear hg hw hp_))
       have n0_ := Aside0.mk (Kd.R_drew HO208.out); have n1_ := Aside0.mk (blk_drew BK197.out); have n2_ := Aside0.mk (blk_drew BK198.out); have n3_ := Aside0.mk (blk_drew BK209.out); have n4_ := Aside0.mk (below_drew1 HB.out); clear HO208; clear BK197; clear BK198; clear BK209; clear HB; have HO208 := n0_; have BK197 := n1_; have BK198 := n2_; have BK209 := n3_; have HB := n4_; clear n0_ n1_ n2_ n3_ n4_
       have p211 : 0 ≤ (t200 : Int) := of_decide_eq_true (by first | (with_reducible assumption) | assumption)
       have q211 : t200 < (l0_4.length : Int) := of_decide_eq_true (by first | (with_reducible assumption) | assumption)
       obtain ⟨ad211, e211, hx211_0, hx211_1, hx211_2, hx211_3, hx211_4, hx211_5⟩ := at_T38 HR0_4.out t200 p211 q211
       have hw211_5 := hx211_5; have hw211_4 := hx211_4; have hw211_3 := hx211_3; have hw211_2 := hx211_2; have hw211_1 := hx211_1; have hw211_0 := hx211_0
       (try rw [← Nbq17.out] at hx211_2)
       (try rw [← Nbq17.out] at hw211_2)
       obtain rfl : ad201 = ad211 := (by injection e211)
       replace hx211_0 := (HB.out.cell (World.block_lt_of_cell? w _ hx211_0)).trans hx211_0
       replace hx211_1 := (HB.out.cell (World.block_lt_of_cell? w _ hx211_1)).trans hx211_1
       replace hx211_2 := (HB.out.cell (World.block_lt_of_cell? w _ hx211_2)).trans hx211_2
       replace hx211_3 := (HB.out.cell (World.block_lt_of_cell? w _ hx211_3)).trans hx211_3
       replace hx211_4 := (HB.out.cell (World.block_lt_of_cell? w _ hx211_4)).trans hx211_4
       replace hx211_5 := (HB.out.cell (World.block_lt_of_cell? w _ hx211_5)).trans hx211_5
       replace p211 := eq_true p211
       replace q211 := eq_true q211
       refine start_ (n := 15) (S := fun w' => w'.cell? ⟨gb209, 0, none⟩ = some (.int .i64 t202) ∧ w'.cell? ⟨gb209, 1, none⟩ = some (.int .i64 t203) ∧ w'.cell? ⟨gb209, 2, none⟩ = some (.int .i64 t204) ∧ w'.cell? ⟨gb209, 3, none⟩ = some (.int .i64 t205) ∧ w'.cell? ⟨gb209, 4, none⟩ = some (.slice (some ⟨go30, 0, none⟩) t206.length co46) ∧ w'.cell? ⟨gb197, 0, none⟩ = some (.int .i64 a0_0) ∧ w'.cell? ⟨gb197, 1, none⟩ = some (.int .i64 a0_1) ∧ w'.cell? ⟨gb197, 2, none⟩ = some (.int .i64 a0_2) ∧ w'.cell? ⟨gb197, 3, none⟩ = some (.int .i64 a0_3) ∧ w'.cell? ⟨gb197, 4, none⟩ = some (.slice (some ad201) l0_4.length c0_4) ∧ w'.cell? (ad201.add ((t200).toNat * 6)) = some (.int .i64 ((rd_T38 l0_4 t200).f0)) ∧ w'.cell? ⟨(ad201.add ((t200).toNat * 6)).block, (ad201.add ((t200).toNat * 6)).off + 1, none⟩ = some (.int .i64 ((rd_T38 l0_4 t200).f1)) ∧ w'.cell? ⟨(ad201.add ((t200).toNat * 6)).block, (ad201.add ((t200).toNat * 6)).off + 2, none⟩ = some (.bool (false)) ∧ w'.cell? ⟨(ad201.add ((t200).toNat * 6)).block, (ad201.add ((t200).toNat * 6)).off + 3, none⟩ = some (.int .i64 ((rd_T38 l0_4 t200).f3.f0)) ∧ w'.cell? ⟨(ad201.add ((t200).toNat * 6)).block, (ad201.add ((t200).toNat * 6)).off + 4, none⟩ = some (.int .i64 ((rd_T38 l0_4 t200).f3.f1)) ∧ w'.cell? ⟨(ad201.add ((t200).toNat * 6)).block, (ad201.add ((t200).toNat * 6)).off + 5, none⟩ = some (.int .i64 ((rd_T38 l0_4 t200).f3.f2))) (ds := [14]) (bs 15 0) (by kernel_rfl) rfl rfl ⟨bt_ BK209 0, bt_ BK209 1, bt_ BK209 2, bt_ BK209 3, bt_ BK209 4, bt_ BK197 0, bt_ BK197 1, bt_ BK197 2, bt_ BK197 3, bt_ BK197 4, ((HB.out.cell (World.block_lt_of_cell? w _ hw211_0)).trans hw211_0), ((HB.out.cell (World.block_lt_of_cell? w _ hw211_1)).trans hw211_1), ((HB.out.cell (World.block_lt_of_cell? w _ hw211_2)).trans hw211_2), ((HB.out.cell (World.block_lt_of_cell? w _ hw211_3)).trans hw211_3), ((HB.out.cell (World.block_lt_of_cell? w _ hw211_4)).trans hw211_4), ((HB.out.cell (World.block_lt_of_cell? w _ hw211_5)).trans hw211_5)⟩ (fun hHeld => ?_); refine with_tabW spec_FairWake.tab10 spec_FairWake.bits10 (fun HT_ HW_ => ?_)
       generalize w50.drew = w51 at HO208 BK197 BK198 BK209 HB hx211_0 hx211_1 hx211_2 hx211_3 hx211_4 hx211_5 hHeld ⊢
       refine pure_s (i := 0) (N := some 32) (bs 15 1) (any_of HT_.out (by kernel_rfl)) (h := ?_)
       refine pure_s (i := 2) (N := some 34) #[oT,oF,oT,oF,oF,oF,oF,oF,oF,oF,oF,oF,oF,oF,oF] (any_of HT_.out (by kernel_rfl)) (h := ?_)
       refine pure_s (i := 3) (N := some 35) #[oT,oF,oT,oT,oF,oF,oF,oF,oF,oF,oF,oF,oF,oF,oF] (any_of HT_.out (by kernel_rfl)) (h := ?_)
       refine pure_s (i := 5) (N := some 37) #[oT,oF,oT,oT,oF,oT,oF,oF,oF,oF,oF,oF,oF,oF,oF] (any_of HT_.out (by kernel_rfl)) (h := ?_)
       refine pure_s (i := 9) (N := some 41) #[oT,oF,oT,oT,oF,oT,oF,oF,oF,oT,oF,oF,oF,oF,oF] (any_of HT_.out (by kernel_rfl)) (h := ?_)
       refine take_ (i := 1) (N := some 33) (v := ?_) (a' := ?_) #[oT,oT,oT,oT,oF,oT,oF,oF,oF,oT,oF,oF,oF,oF,oF] rfl rfl (take_ofW HT_.out HW_.out (by kernel_rfl)) (fun _ _ _ h => h) (Or.inl ⟨by rfl, ?_⟩) hHeld ?_ ?_
       rotate_left
       ·rintro w' ⟨s0, s1, s2, s3, s4, s5, s6, s7, s8, s9, s10, s11, s12, s13, s14, s15⟩
        go_simp
        with_reducible rfl
       rotate_left
       ·simp only [Act.put, List.setIfInBounds_toArray, List.set_cons_zero, List.set_cons_succ, i64_w, i32_w]
        rfl
       refine take_ (i := 4) (N := some 36) (v := ?_) (a' := ?_) #[oT,oT,oT,oT,oT,oT,oF,oF,oF,oT,oF,oF,oF,oF,oF] rfl rfl (take_ofW HT_.out HW_.out (by kernel_rfl)) (fun _ _ _ h => h) (Or.inl ⟨by rfl, ?_⟩) hHeld ?_ ?_
       rotate_left
       ·rintro w' ⟨s0, s1, s2, s3, s4, s5, s6, s7, s8, s9, s10, s11, s12, s13, s14, s15⟩
        go_simp
        with_reducible rfl
       rotate_left
       ·simp only [Act.put, List.setIfInBounds_toArray, List.set_cons_zero, List.set_cons_succ, i64_w, i32_w]
        rfl
       refine pure_s (i := 6) (N := some 38) #[oT,oT,oT,oT,oT,oT,oT,oF,oF,oT,oF,oF,oF,oF,oF] (any_of HT_.out (by kernel_rfl)) (h := ?_)
       refine pure_s (i := 7) (N := some 39) #[oT,oT,oT,oT,oT,oT,oT,oT,oF,oT,oF,oF,oF,oF,oF] (any_of HT_.out (by kernel_rfl)) (h := ?_)
       refine take_ (i := 8) (N := some 40) (v := ?_) (a' := ?_) (bs 15 10) rfl rfl (take_ofW HT_.out HW_.out (by kernel_rfl)) (fun _ _ _ h => h) (Or.inl ⟨by rfl, ?_⟩) hHeld ?_ ?_
       rotate_left
       ·rintro w' ⟨s0, s1, s2, s3, s4, s5, s6, s7, s8, s9, s10, s11, s12, s13, s14, s15⟩
        go_simp
        with_reducible rfl
       rotate_left
       ·simp only [Act.put, List.setIfInBounds_toArray, List.set_cons_zero, List.set_cons_succ, i64_w, i32_w]
        rfl
       refine take_ (i := 10) (N := some 42) (v := ?_) (a' := ?_) (bs 15 11) rfl rfl (take_ofW HT_.out HW_.out (by kernel_rfl)) (fun _ _ _ h => h) (Or.inl ⟨by rfl, ?_⟩) hHeld ?_ ?_
       rotate_left
       ·rintro w' ⟨s0, s1, s2, s3, s4, s5, s6, s7, s8, s9, s10, s11, s12, s13, s14, s15⟩
        go_simp
        with_reducible rfl
       rotate_left
       ·simp only [Act.put, List.setIfInBounds_toArray, List.set_cons_zero, List.set_cons_succ, i64_w, i32_w]
        rfl
       refine one_ (i := 11) (N := some 43) (bs 15 12) rfl rfl (one_of HT_.out (by kernel_rfl)) (by decide) (fun K hK => ?_)
       refine goes_ Try.func59 (by kernel_rfl) rfl #[.agg #[.int .i64 ((rd_T38 l0_4 t200).f3.f0), .int .i64 ((rd_T38 l0_4 t200).f3.f1), .int .i64 ((rd_T38 l0_4 t200).f3.f2)], .agg #[.int .i64 a0_1, .int .i64 a0_2, .int .i64 a0_3]] (by rfl) rfl rfl mt_ ?_
       with_reducible refine (spec_VecMost.calls ((rd_T38 l0_4 t200).f3.f0) ((rd_T38 l0_4 t200).f3.f1) ((rd_T38 l0_4 t200).f3.f2) a0_1 a0_2 a0_3 t212 t213 t214 _ A31.out).mono ?_
       rintro e w52 ⟨rfl, hb⟩
       refine ⟨_, rfl, ?_⟩
       have n0_ := Aside0.mk (Kd.R_below (kr_ HO208) hb); have n1_ := bb_ BK197 hb; have n2_ := bb_ BK198 hb; have n3_ := bb_ BK209 hb; have n4_ := Aside0.mk (below_step (bf_ HB) hb); clear HO208; clear BK197; clear BK198; clear BK209; clear HB; have HO208 := n0_; have BK197 := n1_; have BK198 := n2_; have BK209 := n3_; have HB := n4_; clear n0_ n1_ n2_ n3_ n4_; (try clear hb); (try clear hb2); (try clear hk); (try clear hi)
       have p32 : 0 ≤ (t200 : Int) := of_decide_eq_true (by first | (with_reducible assumption) | assumption)
       have q32 : (t200 : Int) < ((t206.length : Int) : Int) := of_decide_eq_true (by first | (with_reducible assumption) | assumption)
       obtain ⟨ce32, hcl32, hM32, hcc32, hfr32⟩ := Kd.R_elem HO208.out z38 (t200 : Int) p32 q32
       obtain rfl := k38_openM hM32
       have hx32_0 : World.cell? _ ⟨go30, (t200 : Int).toNat * 6, none⟩ = some (.int .i64 ((rd_T38 y210 t200).f0)) := hcc32 0 _ rfl
       have hx32_1 : World.cell? _ ⟨go30, (t200 : Int).toNat * 6 + 1, none⟩ = some (.int .i64 ((rd_T38 y210 t200).f1)) := hcc32 1 _ rfl
       have hx32_2 : World.cell? _ ⟨go30, (t200 : Int).toNat * 6 + 2, none⟩ = some (.bool ((rd_T38 y210 t200).f2)) := hcc32 2 _ rfl
       have hx32_3 : World.cell? _ ⟨go30, (t200 : Int).toNat * 6 + 3, none⟩ = some (.int .i64 ((rd_T38 y210 t200).f3.f0)) := hcc32 3 _ rfl
       have hx32_4 : World.cell? _ ⟨go30, (t200 : Int).toNat * 6 + 4, none⟩ = some (.int .i64 ((rd_T38 y210 t200).f3.f1)) := hcc32 4 _ rfl
       have hx32_5 : World.cell? _ ⟨go30, (t200 : Int).toNat * 6 + 5, none⟩ = some (.int .i64 ((rd_T38 y210 t200).f3.f2)) := hcc32 5 _ rfl
       have hf32_0 : World.frozen? _ ⟨go30, (t200 : Int).toNat * 6, none⟩ = false := hfr32 0
       have hf32_1 : World.frozen? _ ⟨go30, (t200 : Int).toNat * 6 + 1, none⟩ = false := hfr32 1
       have hf32_2 : World.frozen? _ ⟨go30, (t200 : Int).toNat * 6 + 2, none⟩ = false := hfr32 2
       have hf32_3 : World.frozen? _ ⟨go30, (t200 : Int).toNat * 6 + 3, none⟩ = false := hfr32 3
       have hf32_4 : World.frozen? _ ⟨go30, (t200 : Int).toNat * 6 + 4, none⟩ = false := hfr32 4
       have hf32_5 : World.frozen? _ ⟨go30, (t200 : Int).toNat * 6 + 5, none⟩ = false := hfr32 5
       clear hcl32 hcc32 hfr32 hM32
       replace p32 := eq_true p32
       replace q32 := eq_true q32
       obtain ⟨ce53, hcl53, hM53, hcc53, hfr53⟩ := Kd.R_elem HO208.out z38 (t200 : Int) (of_decide_eq_true (by first | (with_reducible assumption) | assumption)) (by have h_ : (t200 : Int) < ((t206.length : Int) : Int) := of_decide_eq_true (by first | (with_reducible assumption) | assumption); first | exact h_ | (have e_ := (Kd.R_reads' HO208.out).1; omega) | simpa using h_)
       obtain rfl := k38_openM hM53
       have HP53 := (Kd.R_seg HO208.out (t200 : Int) (of_decide_eq_true (by first | (with_reducible assumption) | assumption)) (by have h_ : (t200 : Int) < ((t206.length : Int) : Int) := of_decide_eq_true (by first | (with_reducible assumption) | assumption); first | exact h_ | (have e_ := (Kd.R_reads' HO208.out).1; omega) | simpa using h_) (seg := [.int .i64 t212, .int .i64 t213, .int .i64 t214]) (j := 3) hcl53 hcc53 (show 6 ≤ 6 from by decide) (x' := (⟨(rd_T38 y210 t200).f0, (rd_T38 y210 t200).f1, (rd_T38 y210 t200).f2, (⟨t212, t213, t214⟩ : S29)⟩ : S38)) (k38_mkM _ _ _ (⟨(rd_T38 y210 t200).f0, (rd_T38 y210 t200).f1, (rd_T38 y210 t200).f2, (⟨t212, t213, t214⟩ : S29)⟩ : S38) ) (fun _ hk => by first | exact hk | grind)).1
       rw [← Ny215.out] at HP53
       have HQ53 := Aside0.mk HP53
       clear hcl53 hcc53 hfr53 hM53 HP53
       refine hK.out _ _ ⟨bt_ BK209 0, bt_ BK209 1, bt_ BK209 2, bt_ BK209 3, bt_ BK209 4, bt_ BK197 0, bt_ BK197 1, bt_ BK197 2, bt_ BK197 3, bt_ BK197 4, ((HB.out.cell (World.block_lt_of_cell? w _ hw211_0)).trans hw211_0), ((HB.out.cell (World.block_lt_of_cell? w _ hw211_1)).trans hw211_1), ((HB.out.cell (World.block_lt_of_cell? w _ hw211_2)).trans hw211_2), ((HB.out.cell (World.block_lt_of_cell? w _ hw211_3)).trans hw211_3), ((HB.out.cell (World.block_lt_of_cell? w _ hw211_4)).trans hw211_4), ((HB.out.cell (World.block_lt_of_cell? w _ hw211_5)).trans hw211_5)⟩ (fun hHeld => ?_)
       clear hK K
       refine norm_ (a' := ?_) ?_ ?_
       rotate_left
       ·show Act.put _ (some 43) _ = _
        simp only [Act.put, List.setIfInBounds_toArray, List.set_cons_zero, List.set_cons_succ, i64_w, i32_w]
        rfl
       refine pure_s (i := 12) (N := some 44) (bs 15 13) (any_of HT_.out (by kernel_rfl)) (h := ?_)
       refine pure_s (i := 13) (N := some 45) (bs 15 14) (any_of HT_.out (by kernel_rfl)) (h := ?_)
       refine last_ (i := 14) (N := none) (bs 15 15) rfl rfl (one_of HT_.out (by kernel_rfl)) (by decide) (fun K hK => ?_)
       refine skip_ (w1 := ?_) (by rfl) rfl ?_ ?_
       rotate_left
       ·go_simp
        rfl
       refine hK.out _ _ ?_
       clear hK K
       refine done_ (done_of HT_.out (by kernel_rfl)) ?_
       have n0_ : Aside0 (Kd.R k38 38 (((w52.setCell ⟨go30, (t200 : Int).toNat * 6 + 3, none⟩ (.int .i64 t212)).setCell ⟨go30, (t200 : Int).toNat * 6 + 4, none⟩ (.int .i64 t213)).setCell ⟨go30, (t200 : Int).toNat * 6 + 5, none⟩ (.int .i64 t214)) w.heap.size (fun _ => True) (.slice (some ⟨go30, 0, none⟩) t206.length co46) y215) := ⟨kr_ HQ53⟩
       have n1_ : Aside0 ((((w52.setCell ⟨go30, (t200 : Int).toNat * 6 + 3, none⟩ (.int .i64 t212)).setCell ⟨go30, (t200 : Int).toNat * 6 + 4, none⟩ (.int .i64 t213)).setCell ⟨go30, (t200 : Int).toNat * 6 + 5, none⟩ (.int .i64 t214)).heap[gb197]? = some (.cells #[.int .i64 a0_0, .int .i64 a0_1, .int .i64 a0_2, .int .i64 a0_3, .slice (some ad201) l0_4.length c0_4] 32 (0, 0))) := ⟨by (with_reducible repeat (first | refine blk_drewN ?_ _ | refine blk_drew ?_ | refine blk_alloc ?_ _)); refine blk_far ?_ (by have h_ := Kd.R_ne HO208.out BK197.out (by decide); intro e_; exact h_ (by rw [e_]; rfl)) _; (with_reducible repeat (first | refine blk_drewN ?_ _ | refine blk_drew ?_ | refine blk_alloc ?_ _)); refine blk_far ?_ (by have h_ := Kd.R_ne HO208.out BK197.out (by decide); intro e_; exact h_ (by rw [e_]; rfl)) _; (with_reducible repeat (first | refine blk_drewN ?_ _ | refine blk_drew ?_ | refine blk_alloc ?_ _)); refine blk_far ?_ (by have h_ := Kd.R_ne HO208.out BK197.out (by decide); intro e_; exact h_ (by rw [e_]; rfl)) _; exact bk_ BK197⟩
       have n2_ : Aside0 ((((w52.setCell ⟨go30, (t200 : Int).toNat * 6 + 3, none⟩ (.int .i64 t212)).setCell ⟨go30, (t200 : Int).toNat * 6 + 4, none⟩ (.int .i64 t213)).setCell ⟨go30, (t200 : Int).toNat * 6 + 5, none⟩ (.int .i64 t214)).heap[gb198]? = some (.cells #[.int .i64 0, .int .i64 0, .int .i64 0, .int .i64 0, .slice none 0 0] 32 (0, 0))) := ⟨by (with_reducible repeat (first | refine blk_drewN ?_ _ | refine blk_drew ?_ | refine blk_alloc ?_ _)); refine blk_far ?_ (by have h_ := Kd.R_ne HO208.out BK198.out (by decide); intro e_; exact h_ (by rw [e_]; rfl)) _; (with_reducible repeat (first | refine blk_drewN ?_ _ | refine blk_drew ?_ | refine blk_alloc ?_ _)); refine blk_far ?_ (by have h_ := Kd.R_ne HO208.out BK198.out (by decide); intro e_; exact h_ (by rw [e_]; rfl)) _; (with_reducible repeat (first | refine blk_drewN ?_ _ | refine blk_drew ?_ | refine blk_alloc ?_ _)); refine blk_far ?_ (by have h_ := Kd.R_ne HO208.out BK198.out (by decide); intro e_; exact h_ (by rw [e_]; rfl)) _; exact bk_ BK198⟩
       have n3_ : Aside0 ((((w52.setCell ⟨go30, (t200 : Int).toNat * 6 + 3, none⟩ (.int .i64 t212)).setCell ⟨go30, (t200 : Int).toNat * 6 + 4, none⟩ (.int .i64 t213)).setCell ⟨go30, (t200 : Int).toNat * 6 + 5, none⟩ (.int .i64 t214)).heap[gb209]? = some (.cells #[.int .i64 t202, .int .i64 t203, .int .i64 t204, .int .i64 t205, .slice (some ⟨go30, 0, none⟩) t206.length co46] 32 (0, 0))) := ⟨by (with_reducible repeat (first | refine blk_drewN ?_ _ | refine blk_drew ?_ | refine blk_alloc ?_ _)); refine blk_far ?_ (by have h_ := Kd.R_ne HO208.out BK209.out (by decide); intro e_; exact h_ (by rw [e_]; rfl)) _; (with_reducible repeat (first | refine blk_drewN ?_ _ | refine blk_drew ?_ | refine blk_alloc ?_ _)); refine blk_far ?_ (by have h_ := Kd.R_ne HO208.out BK209.out (by decide); intro e_; exact h_ (by rw [e_]; rfl)) _; (with_reducible repeat (first | refine blk_drewN ?_ _ | refine blk_drew ?_ | refine blk_alloc ?_ _)); refine blk_far ?_ (by have h_ := Kd.R_ne HO208.out BK209.out (by decide); intro e_; exact h_ (by rw [e_]; rfl)) _; exact bk_ BK209⟩
       have n4_ : Aside0 (Below w.heap.size w (((w52.setCell ⟨go30, (t200 : Int).toNat * 6 + 3, none⟩ (.int .i64 t212)).setCell ⟨go30, (t200 : Int).toNat * 6 + 4, none⟩ (.int .i64 t213)).setCell ⟨go30, (t200 : Int).toNat * 6 + 5, none⟩ (.int .i64 t214))) := ⟨by repeat (first | (with_reducible first | exact HB.out | apply below_alloc | apply pw_below_drewN | apply below_drew1 | refine below_set ?_ GB30.out | refine below_set ?_ GB30.out | refine below_set ?_ GB30.out | refine below_set ?_ GE197.out | refine below_set ?_ GE198.out | refine below_set ?_ GE209.out) | exact HB.out)⟩
       (try clear HO208); (try clear BK197); (try clear BK198); (try clear BK209); (try clear HB)
       generalize (((w52.setCell ⟨go30, (t200 : Int).toNat * 6 + 3, none⟩ (.int .i64 t212)).setCell ⟨go30, (t200 : Int).toNat * 6 + 4, none⟩ (.int .i64 t213)).setCell ⟨go30, (t200 : Int).toNat * 6 + 5, none⟩ (.int .i64 t214)) = w54 at n0_ n1_ n2_ n3_ n4_ ⊢
       have HO208 := n0_; have BK197 := n1_; have BK198 := n2_; have BK209 := n3_; have HB := n4_; clear n0_ n1_ n2_ n3_ n4_; have hcz55_0 := bc_ BK209 0 (.int .i64 t202) rfl; have hcz55_1 := bc_ BK209 1 (.int .i64 t203) rfl; have hcz55_2 := bc_ BK209 2 (.int .i64 t204) rfl; have hcz55_3 := bc_ BK209 3 (.int .i64 t205) rfl
       have hcz55_4 := bc_ BK209 4 (.slice (some ⟨go30, 0, none⟩) t206.length co46) rfl
       have hfz55_0 := blk_frozen BK209.out 0; have hfz55_1 := blk_frozen BK209.out 1; have hfz55_2 := blk_frozen BK209.out 2; have hfz55_3 := blk_frozen BK209.out 3; have hfz55_4 := blk_frozen BK209.out 4; have hcz56_0 := bc_ BK198 0 (.int .i64 0) rfl; have hcz56_1 := bc_ BK198 1 (.int .i64 0) rfl; have hcz56_2 := bc_ BK198 2 (.int .i64 0) rfl; have hcz56_3 := bc_ BK198 3 (.int .i64 0) rfl; have hcz56_4 := bc_ BK198 4 (.slice none 0 0) rfl; have hfz56_0 := blk_frozen BK198.out 0; have hfz56_1 := blk_frozen BK198.out 1; have hfz56_2 := blk_frozen BK198.out 2; have hfz56_3 := blk_frozen BK198.out 3; have hfz56_4 := blk_frozen BK198.out 4
       try go_wp2
       refine bodyPost_ret (results_ct rfl _ _ gb198 32 #[.int .i64 t202, .int .i64 t203, .int .i64 t204, .int .i64 t205, .slice (some ⟨go30, 0, none⟩) t206.length co46] (0, 0) _ rfl (by (with_reducible repeat (first | refine blk_drewN ?_ _ | refine blk_drew ?_ | refine blk_alloc ?_ _)); refine blk_put (cs := #[.int .i64 t202, .int .i64 t203, .int .i64 t204, .int .i64 t205, .slice none 0 0]) ?_ 4 _ rfl; (with_reducible repeat (first | refine blk_drewN ?_ _ | refine blk_drew ?_ | refine blk_alloc ?_ _)); refine blk_put (cs := #[.int .i64 t202, .int .i64 t203, .int .i64 t204, .int .i64 0, .slice none 0 0]) ?_ 3 _ rfl; (with_reducible repeat (first | refine blk_drewN ?_ _ | refine blk_drew ?_ | refine blk_alloc ?_ _)); refine blk_put (cs := #[.int .i64 t202, .int .i64 t203, .int .i64 0, .int .i64 0, .slice none 0 0]) ?_ 2 _ rfl; (with_reducible repeat (first | refine blk_drewN ?_ _ | refine blk_drew ?_ | refine blk_alloc ?_ _)); refine blk_put (cs := #[.int .i64 t202, .int .i64 0, .int .i64 0, .int .i64 0, .slice none 0 0]) ?_ 1 _ rfl; (with_reducible repeat (first | refine blk_drewN ?_ _ | refine blk_drew ?_ | refine blk_alloc ?_ _)); refine blk_put (cs := #[.int .i64 0, .int .i64 0, .int .i64 0, .int .i64 0, .slice none 0 0]) ?_ 0 _ rfl; exact bk_ BK198) Try.underlying32 rfl (by kernel_rfl)) rfl ?_
       exact ⟨_, by first | rfl | (simp [errW_none, errW_some] <;> rfl) | (simp [*, errW_none, errW_some] <;> rfl), by (with_reducible repeat (first | apply Kd.R_alloc | apply Kd.R_drewN | apply Kd.R_drew)); exact Kd.R_mono (Kd.R_far (p := ⟨gb198, 4, none⟩) (Kd.R_far (p := ⟨gb198, 3, none⟩) (Kd.R_far (p := ⟨gb198, 2, none⟩) (Kd.R_far (p := ⟨gb198, 1, none⟩) (Kd.R_far (p := ⟨gb198, 0, none⟩) (Kd.R_types HO208.out BK198.out (by decide)) (fun _ hk => by first | exact hk.2 | grind) (.int .i64 t202)) (fun _ hk => by first | exact hk.2 | grind) (.int .i64 t203)) (fun _ hk => by first | exact hk.2 | grind) (.int .i64 t204)) (fun _ hk => by first | exact hk.2 | grind) (.int .i64 t205)) (fun _ hk => by first | exact hk.2 | grind) (.slice (some ⟨go30, 0, none⟩) t206.length co46)) (fun _ hk => by first | exact trivial | grind), bf_ HB⟩
      ·rw [if_neg c29] at H
       exact absurd H (by simp)
    ·rw [if_neg c16] at H
     exact absurd H (by simp)
   ·rw [if_neg c15] at H
    exact absurd H (by simp)
 ·replace c4 := Bool.eq_false_iff.mpr c4
  subst c4
  have H1 : (some (0, 0, 0, 0, ([] : List (S38)), 1)) = some (r1, r2, r3, r4, r5, r6) := by rw [if_neg (show ¬ (false = true) by decide)] at H; exact H
  clear H
  have H := H1
  clear H1
  simp only [Option.some.injEq, Prod.mk.injEq] at H
  obtain ⟨rfl, rfl, rfl, rfl, rfl, rfl⟩ := H
  go_enter Try.func33, Try.ntmps33
  go_wp2_with (first | ((with_reducible refine gate_dst (N := 2) rfl ?_); refine box_event ?hg (N := 2) ?hd (cs := #[.int .i64 a0_0, .int .i64 a0_1, .int .i64 a0_2, .int .i64 a0_3, .slice A0_4 l0_4.length c0_4]) (t := 32) ?hr ?_; (case hd => rfl); (case hg => rfl); (case hr => first | (go_simp; done) | (go_simp; rfl)); intro gb197 hg w57 hbox hb; have n0_ := Aside0.mk (below_step (be_ HB) hb); have n1_ := Aside0.mk (hbox); have n2_ := gw_ HB hg; have n3_ := gw_ HB hg; clear HB; have HB := n0_; have BK197 := n1_; have GW197 := n2_; have GE197 := n3_; clear n0_ n1_ n2_ n3_; clear hb hbox hg) | ((with_reducible refine gate_dst (N := 4) rfl ?_); refine box_event ?hg (N := 4) ?hd (cs := #[.int .i64 0, .int .i64 0, .int .i64 0, .int .i64 0, .slice none 0 0]) (t := 32) ?hr ?_; (case hd => rfl); (case hg => rfl); (case hr => first | (go_simp; done) | (go_simp; rfl)); intro gb198 hg w58 hbox hb; have n0_ := bb_ BK197 hb; have n1_ := Aside0.mk (below_step (bf_ HB) hb); have n2_ := Aside0.mk (hbox); have n3_ := gw_ HB hg; have n4_ := gw_ HB hg; have n5_ := nl_ BK197 hg; have n6_ := ng_ BK197 hg; clear BK197; clear HB; have BK197 := n0_; have HB := n1_; have BK198 := n2_; have GW198 := n3_; have GE198 := n4_; have NB197_198 := n5_; have NB198_197 := n6_; clear n0_ n1_ n2_ n3_ n4_ n5_ n6_; clear hb hbox hg; have hnb59 := NB197_198.out; have hnc59 := NB198_197.out; have hcz60_0 := bc_ BK197 0 (.int .i64 a0_0) rfl; have hcz60_1 := bc_ BK197 1 (.int .i64 a0_1) rfl; have hcz60_2 := bc_ BK197 2 (.int .i64 a0_2) rfl; have hcz60_3 := bc_ BK197 3 (.int .i64 a0_3) rfl; have hcz60_4 := bc_ BK197 4 (.slice A0_4 l0_4.length c0_4) rfl; have hfz60_0 := blk_frozen BK197.out 0; have hfz60_1 := blk_frozen BK197.out 1; have hfz60_2 := blk_frozen BK197.out 2; have hfz60_3 := blk_frozen BK197.out 3; have hfz60_4 := blk_frozen BK197.out 4) | ((with_reducible refine gate_callee (f := 16) rfl ?_); refine goesL_ (some 9) rfl rfl Try.func16 (by kernel_rfl) rfl #[.agg #[.int .i64 a0_0, .int .i64 a0_1, .int .i64 a0_2, .int .i64 a0_3, .slice A0_4 l0_4.length c0_4]] rfl mt_ ?_; (with_reducible refine (spec_FairOk.calls k a0_0 a0_1 a0_2 a0_3 _ _ l0_4 false _ ?side1 ?side2 A3.out).mono ?_); (case side1 => repeat (first | exact (Kd.C_below HR0_4.out HB.out) | (with_reducible refine Kd.C_alloc ?_ _) | (with_reducible refine Kd.C_drewN ?_ _) | (with_reducible refine Kd.C_drew ?_))); (case side2 => exact HC0_4.out); rintro e w61 ⟨rfl, hb⟩; refine ⟨_, rfl, ?_⟩; have n0_ := bb_ BK197 hb; have n1_ := bb_ BK198 hb; have n2_ := Aside0.mk (below_step (bf_ HB) hb); clear BK197; clear BK198; clear HB; have BK197 := n0_; have BK198 := n1_; have HB := n2_; clear n0_ n1_ n2_; (try clear hb); (try clear hb2); (try clear hk); (try clear hi); have hcz62_0 := bc_ BK198 0 (.int .i64 0) rfl; have hcz62_1 := bc_ BK198 1 (.int .i64 0) rfl; have hcz62_2 := bc_ BK198 2 (.int .i64 0) rfl; have hcz62_3 := bc_ BK198 3 (.int .i64 0) rfl; have hcz62_4 := bc_ BK198 4 (.slice none 0 0) rfl; have hfz62_0 := blk_frozen BK198.out 0; have hfz62_1 := blk_frozen BK198.out 1; have hfz62_2 := blk_frozen BK198.out 2; have hfz62_3 := blk_frozen BK198.out 3; have hfz62_4 := blk_frozen BK198.out 4))
  refine bodyPost_ret (results_ct rfl _ _ gb198 32 #[.int .i64 0, .int .i64 0, .int .i64 0, .int .i64 0, .slice none 0 0] (0, 0) _ rfl (by (with_reducible repeat (first | refine blk_drewN ?_ _ | refine blk_drew ?_ | refine blk_alloc ?_ _)); refine blk_put (cs := #[.int .i64 0, .int .i64 0, .int .i64 0, .int .i64 0, .slice none 0 0]) ?_ 4 _ rfl; (with_reducible repeat (first | refine blk_drewN ?_ _ | refine blk_drew ?_ | refine blk_alloc ?_ _)); refine blk_put (cs := #[.int .i64 0, .int .i64 0, .int .i64 0, .int .i64 0, .slice none 0 0]) ?_ 3 _ rfl; (with_reducible repeat (first | refine blk_drewN ?_ _ | refine blk_drew ?_ | refine blk_alloc ?_ _)); refine blk_put (cs := #[.int .i64 0, .int .i64 0, .int .i64 0, .int .i64 0, .slice none 0 0]) ?_ 2 _ rfl; (with_reducible repeat (first | refine blk_drewN ?_ _ | refine blk_drew ?_ | refine blk_alloc ?_ _)); refine blk_put (cs := #[.int .i64 0, .int .i64 0, .int .i64 0, .int .i64 0, .slice none 0 0]) ?_ 1 _ rfl; (with_reducible repeat (first | refine blk_drewN ?_ _ | refine blk_drew ?_ | refine blk_alloc ?_ _)); refine blk_put (cs := #[.int .i64 0, .int .i64 0, .int .i64 0, .int .i64 0, .slice none 0 0]) ?_ 0 _ rfl; exact bk_ BK198) Try.underlying32 rfl (by kernel_rfl)) rfl ?_
  exact ⟨_, by first | rfl | (simp [errW_none, errW_some] <;> rfl) | (simp [*, errW_none, errW_some] <;> rfl), by first | exact Kd.R_nil _ _ _ _ _ | exact Kd.N_nil _ _ _ _ _ | exact Kd.V_nil _ _ _ _ _ | exact Kd.Q_nil _ _ _ _ _ | exact Kd.S_nil _ _ _ _ _, bf_ HB⟩

/-! ### impl_VecTop: function 52 -/
def impl_VecTop.f (a0_0 : Int) (a0_1 : Int) (a0_2 : Int) : Option (Int) := some (mx (mx a0_0 a0_1) a0_2)
set_option maxHeartbeats 8000000 in
set_option maxRecDepth 100000 in
theorem impl_VecTop.calls (a0_0 : Int) (a0_1 : Int) (a0_2 : Int) (r : Int) (w : World) (h : impl_VecTop.f a0_0 a0_1 a0_2 = some r) :
  Calls Try.prog 52 #[.agg #[.int .i64 a0_0, .int .i64 a0_1, .int .i64 a0_2]] w fun e w' => e = .returned (.int .i64 r) ∧ Below w.heap.size w w' := by
 have hu29 := Try.underlying29; have HB := Aside0.mk (Below.refl w.heap.size w)
 have H : (some (mx (mx a0_0 a0_1) a0_2)) = some r := h
 clear h
 obtain ⟨ji2, hji2⟩ : ∃ j_ : Int, (mx a0_0 a0_1) = j_ := ⟨_, rfl⟩
 replace H : (some (mx (ji2) a0_2)) = some r := by first | (rw [hji2] at H; exact H) | (simp only [hji2] at H ⊢; exact H)
 have hji2_ : (if a0_0 < a0_1 then a0_1 else a0_0) = ji2 := hji2
 obtain ⟨ji3, hji3⟩ : ∃ j_ : Int, (mx (ji2) a0_2) = j_ := ⟨_, rfl⟩
 replace H : (some ji3) = some r := by first | (rw [hji3] at H; exact H) | (simp only [hji3] at H ⊢; exact H)
 have hji3_ : (if (ji2) < a0_2 then a0_2 else (ji2)) = ji3 := hji3
 obtain rfl := Option.some.inj H
 go_enter Try.func52, Try.ntmps52
 go_wp2_with (first | ((with_reducible refine gate_dst (N := 1) rfl ?_); refine box_event ?hg (N := 1) ?hd (cs := #[.int .i64 a0_0, .int .i64 a0_1, .int .i64 a0_2]) (t := 29) ?hr ?_; (case hd => rfl); (case hg => rfl); (case hr => first | (go_simp; done) | (go_simp; rfl)); intro gb216 hg w4 hbox hb; have n0_ := Aside0.mk (below_step (be_ HB) hb); have n1_ := Aside0.mk (hbox); have n2_ := gw_ HB hg; have n3_ := gw_ HB hg; clear HB; have HB := n0_; have BK216 := n1_; have GW216 := n2_; have GE216 := n3_; clear n0_ n1_ n2_ n3_; clear hb hbox hg; have hcz5_0 := bc_ BK216 0 (.int .i64 a0_0) rfl; have hcz5_1 := bc_ BK216 1 (.int .i64 a0_1) rfl; have hcz5_2 := bc_ BK216 2 (.int .i64 a0_2) rfl; have hfz5_0 := blk_frozen BK216.out 0; have hfz5_1 := blk_frozen BK216.out 1; have hfz5_2 := blk_frozen BK216.out 2))
 go_ret
 exact ⟨by first | rfl | (simp [errW_none, errW_some] <;> rfl) | (simp only [← hji2, ← hji3]; first | rfl | (simp [errW_none, errW_some] <;> rfl)) | (simp [*, errW_none, errW_some] <;> rfl), bf_ HB⟩

/-! ### impl_within: function 96 -/
def impl_within.f (a0 : Int) (a1 : Int) (a2 : Int) : Option (Bool) := if a0 ≥ a1 then (some (decide (a0 ≤ a2))) else (some false)
set_option maxHeartbeats 8000000 in
set_option maxRecDepth 100000 in
theorem impl_within.calls (a0 : Int) (a1 : Int) (a2 : Int) (r : Bool) (w : World) (h : impl_within.f a0 a1 a2 = some r) :
  Calls Try.prog 96 #[.int .i64 a0, .int .i64 a1, .int .i64 a2] w fun e w' => e = .returned (.bool r) ∧ Drawn0 w w' := by
 have H : (if a0 ≥ a1 then (some (decide (a0 ≤ a2))) else (some false)) = some r := h
 clear h
 by_cases c4 : a0 ≥ a1
 ·rw [if_pos c4] at H
  have c4b0 : decide (a1 ≤ a0) = true := decide_eq_true c4
  clear c4
  obtain rfl := Option.some.inj H
  go_enter Try.func96, Try.ntmps96
  go_wp2
  go_ret
  exact ⟨by first | rfl | (simp; done) | (simp [*]; done), by repeat (first | exact Drawn0.refl _ | apply Drawn0.step)⟩
 ·rw [if_neg c4] at H
  have c4b0 : decide (a1 ≤ a0) = false := decide_eq_false c4
  clear c4
  obtain rfl := Option.some.inj H
  go_enter Try.func96, Try.ntmps96
  go_wp2
  go_ret
  exact ⟨by first | rfl | (simp; done) | (simp [*]; done), by repeat (first | exact Drawn0.refl _ | apply Drawn0.step)⟩

/-! ### impl_Vec_isFrom: function 91 -/
def impl_Vec_isFrom.f (a0_0 : Int) (a0_1 : Int) (a0_2 : Int) (a1 : Int) (a2 : Int) : Option (Bool) := (impl_within.f a0_0 a1 a2).bind fun t218 => (if t218 = true then ((impl_within.f a0_1 a1 a2).bind fun t219 => (if t219 = true then ((impl_within.f a0_2 a1 a2).bind fun t220 => (some t220)) else (some false))) else (some false))
set_option maxHeartbeats 8000000 in
set_option maxRecDepth 100000 in
theorem impl_Vec_isFrom.calls (a0_0 : Int) (a0_1 : Int) (a0_2 : Int) (a1 : Int) (a2 : Int) (r : Bool) (w : World) (h : impl_Vec_isFrom.f a0_0 a0_1 a0_2 a1 a2 = some r) :
  Calls Try.prog 91 #[.agg #[.int .i64 a0_0, .int .i64 a0_1, .int .i64 a0_2], .int .i64 a1, .int .i64 a2] w fun e w' => e = .returned (.bool r) ∧ Below w.heap.size w w' := by
 have hu29 := Try.underlying29; have HB := Aside0.mk (Below.refl w.heap.size w)
 have H : ((impl_within.f a0_0 a1 a2).bind fun t218 => (if t218 = true then ((impl_within.f a0_1 a1 a2).bind fun t219 => (if t219 = true then ((impl_within.f a0_2 a1 a2).bind fun t220 => (some t220)) else (some false))) else (some false))) = some r := h
 clear h
 replace H := Option.bind_eq_some_iff.mp H
 obtain ⟨t218, A40, H⟩ := H
 replace H : (if t218 = true then ((impl_within.f a0_1 a1 a2).bind fun t219 => (if t219 = true then ((impl_within.f a0_2 a1 a2).bind fun t220 => (some t220)) else (some false))) else (some false)) = some r := H
 have A4 := Aside0.mk A40
 clear A40
 by_cases c5 : t218 = true
 ·subst c5
  have H1 : ((impl_within.f a0_1 a1 a2).bind fun t219 => (if t219 = true then ((impl_within.f a0_2 a1 a2).bind fun t220 => (some t220)) else (some false))) = some r := by rw [if_pos rfl] at H; exact H
  clear H
  have H := H1
  clear H1
  replace H := Option.bind_eq_some_iff.mp H
  obtain ⟨t219, A60, H⟩ := H
  replace H : (if t219 = true then ((impl_within.f a0_2 a1 a2).bind fun t220 => (some t220)) else (some false)) = some r := H
  have A6 := Aside0.mk A60
  clear A60
  by_cases c7 : t219 = true
  ·subst c7
   have H1 : ((impl_within.f a0_2 a1 a2).bind fun t220 => (some t220)) = some r := by rw [if_pos rfl] at H; exact H
   clear H
   have H := H1
   clear H1
   replace H := Option.bind_eq_some_iff.mp H
   obtain ⟨t220, A80, H⟩ := H
   replace H : (some t220) = some r := H
   have A8 := Aside0.mk A80
   clear A80
   obtain rfl := Option.some.inj H
   go_enter Try.func91, Try.ntmps91
   go_wp2_with (first | ((with_reducible refine gate_dst (N := 3) rfl ?_); refine box_event ?hg (N := 3) ?hd (cs := #[.int .i64 a0_0, .int .i64 a0_1, .int .i64 a0_2]) (t := 29) ?hr ?_; (case hd => rfl); (case hg => rfl); (case hr => first | (go_simp; done) | (go_simp; rfl)); intro gb217 hg w9 hbox hb; have n0_ := Aside0.mk (below_step (be_ HB) hb); have n1_ := Aside0.mk (hbox); have n2_ := gw_ HB hg; have n3_ := gw_ HB hg; clear HB; have HB := n0_; have BK217 := n1_; have GW217 := n2_; have GE217 := n3_; clear n0_ n1_ n2_ n3_; clear hb hbox hg; have hcz10_0 := bc_ BK217 0 (.int .i64 a0_0) rfl; have hcz10_1 := bc_ BK217 1 (.int .i64 a0_1) rfl; have hcz10_2 := bc_ BK217 2 (.int .i64 a0_2) rfl; have hfz10_0 := blk_frozen BK217.out 0; have hfz10_1 := blk_frozen BK217.out 1; have hfz10_2 := blk_frozen BK217.out 2) | ((with_reducible refine gate_callee (f := 96) rfl ?_); refine goesL_ (some 11) rfl rfl Try.func96 (by kernel_rfl) rfl #[.int .i64 a0_0, .int .i64 a1, .int .i64 a2] rfl mt_ ?_; (with_reducible refine (impl_within.calls a0_0 a1 a2 true _ A4.out).mono ?_); rintro e w' ⟨rfl, ⟨nd, rfl⟩⟩; refine ⟨_, rfl, ?_⟩) | (go_at_call 96; (with_reducible refine (impl_within.calls a0_1 a1 a2 true _ A6.out).mono ?_); rintro e w' ⟨rfl, ⟨nd, rfl⟩⟩) | (go_at_call 96; (with_reducible refine (impl_within.calls a0_2 a1 a2 t220 _ A8.out).mono ?_); rintro e w' ⟨rfl, ⟨nd, rfl⟩⟩))
   go_ret
   exact ⟨by first | rfl | (simp [errW_none, errW_some] <;> rfl) | (simp [*, errW_none, errW_some] <;> rfl), bf_ HB⟩
  ·replace c7 := Bool.eq_false_iff.mpr c7
   subst c7
   have H1 : (some false) = some r := by rw [if_neg (show ¬ (false = true) by decide)] at H; exact H
   clear H
   have H := H1
   clear H1
   obtain rfl := Option.some.inj H
   go_enter Try.func91, Try.ntmps91
   go_wp2_with (first | ((with_reducible refine gate_dst (N := 3) rfl ?_); refine box_event ?hg (N := 3) ?hd (cs := #[.int .i64 a0_0, .int .i64 a0_1, .int .i64 a0_2]) (t := 29) ?hr ?_; (case hd => rfl); (case hg => rfl); (case hr => first | (go_simp; done) | (go_simp; rfl)); intro gb217 hg w11 hbox hb; have n0_ := Aside0.mk (below_step (be_ HB) hb); have n1_ := Aside0.mk (hbox); have n2_ := gw_ HB hg; have n3_ := gw_ HB hg; clear HB; have HB := n0_; have BK217 := n1_; have GW217 := n2_; have GE217 := n3_; clear n0_ n1_ n2_ n3_; clear hb hbox hg; have hcz12_0 := bc_ BK217 0 (.int .i64 a0_0) rfl; have hcz12_1 := bc_ BK217 1 (.int .i64 a0_1) rfl; have hcz12_2 := bc_ BK217 2 (.int .i64 a0_2) rfl; have hfz12_0 := blk_frozen BK217.out 0; have hfz12_1 := blk_frozen BK217.out 1; have hfz12_2 := blk_frozen BK217.out 2) | ((with_reducible refine gate_callee (f := 96) rfl ?_); refine goesL_ (some 11) rfl rfl Try.func96 (by kernel_rfl) rfl #[.int .i64 a0_0, .int .i64 a1, .int .i64 a2] rfl mt_ ?_; (with_reducible refine (impl_within.calls a0_0 a1 a2 true _ A4.out).mono ?_); rintro e w' ⟨rfl, ⟨nd, rfl⟩⟩; refine ⟨_, rfl, ?_⟩) | (go_at_call 96; (with_reducible refine (impl_within.calls a0_1 a1 a2 false _ A6.out).mono ?_); rintro e w' ⟨rfl, ⟨nd, rfl⟩⟩))
   go_ret
   exact ⟨by first | rfl | (simp [errW_none, errW_some] <;> rfl) | (simp [*, errW_none, errW_some] <;> rfl), bf_ HB⟩
 ·replace c5 := Bool.eq_false_iff.mpr c5
  subst c5
  have H1 : (some false) = some r := by rw [if_neg (show ¬ (false = true) by decide)] at H; exact H
  clear H
  have H := H1
  clear H1
  obtain rfl := Option.some.inj H
  go_enter Try.func91, Try.ntmps91
  go_wp2_with (first | ((with_reducible refine gate_dst (N := 3) rfl ?_); refine box_event ?hg (N := 3) ?hd (cs := #[.int .i64 a0_0, .int .i64 a0_1, .int .i64 a0_2]) (t := 29) ?hr ?_; (case hd => rfl); (case hg => rfl); (case hr => first | (go_simp; done) | (go_simp; rfl)); intro gb217 hg w13 hbox hb; have n0_ := Aside0.mk (below_step (be_ HB) hb); have n1_ := Aside0.mk (hbox); have n2_ := gw_ HB hg; have n3_ := gw_ HB hg; clear HB; have HB := n0_; have BK217 := n1_; have GW217 := n2_; have GE217 := n3_; clear n0_ n1_ n2_ n3_; clear hb hbox hg; have hcz14_0 := bc_ BK217 0 (.int .i64 a0_0) rfl; have hcz14_1 := bc_ BK217 1 (.int .i64 a0_1) rfl; have hcz14_2 := bc_ BK217 2 (.int .i64 a0_2) rfl; have hfz14_0 := blk_frozen BK217.out 0; have hfz14_1 := blk_frozen BK217.out 1; have hfz14_2 := blk_frozen BK217.out 2) | ((with_reducible refine gate_callee (f := 96) rfl ?_); refine goesL_ (some 11) rfl rfl Try.func96 (by kernel_rfl) rfl #[.int .i64 a0_0, .int .i64 a1, .int .i64 a2] rfl mt_ ?_; (with_reducible refine (impl_within.calls a0_0 a1 a2 false _ A4.out).mono ?_); rintro e w' ⟨rfl, ⟨nd, rfl⟩⟩; refine ⟨_, rfl, ?_⟩))
  go_ret
  exact ⟨by first | rfl | (simp [errW_none, errW_some] <;> rfl) | (simp [*, errW_none, errW_some] <;> rfl), bf_ HB⟩

/-! ### impl_TagOk: function 89 -/
def impl_TagOk.f (a0_0 : Int) (a0_1 : Int) (a0_2 : Int) : Option (Bool) := (impl_Vec_isFrom.f a0_0 a0_1 a0_2 0 1000000000000).bind fun t222 => (some t222)
set_option maxHeartbeats 8000000 in
set_option maxRecDepth 100000 in
theorem impl_TagOk.calls (a0_0 : Int) (a0_1 : Int) (a0_2 : Int) (r : Bool) (w : World) (h : impl_TagOk.f a0_0 a0_1 a0_2 = some r) :
  Calls Try.prog 89 #[.agg #[.int .i64 a0_0, .int .i64 a0_1, .int .i64 a0_2]] w fun e w' => e = .returned (.bool r) ∧ Below w.heap.size w w' := by
 have hu29 := Try.underlying29; have HB := Aside0.mk (Below.refl w.heap.size w)
 have H : ((impl_Vec_isFrom.f a0_0 a0_1 a0_2 0 1000000000000).bind fun t222 => (some t222)) = some r := h
 clear h
 replace H := Option.bind_eq_some_iff.mp H
 obtain ⟨t222, A20, H⟩ := H
 replace H : (some t222) = some r := H
 have A2 := Aside0.mk A20
 clear A20
 obtain rfl := Option.some.inj H
 go_enter Try.func89, Try.ntmps89
 go_wp2_with (first | ((with_reducible refine gate_dst (N := 1) rfl ?_); refine box_event ?hg (N := 1) ?hd (cs := #[.int .i64 a0_0, .int .i64 a0_1, .int .i64 a0_2]) (t := 29) ?hr ?_; (case hd => rfl); (case hg => rfl); (case hr => first | (go_simp; done) | (go_simp; rfl)); intro gb221 hg w3 hbox hb; have n0_ := Aside0.mk (below_step (be_ HB) hb); have n1_ := Aside0.mk (hbox); have n2_ := gw_ HB hg; have n3_ := gw_ HB hg; clear HB; have HB := n0_; have BK221 := n1_; have GW221 := n2_; have GE221 := n3_; clear n0_ n1_ n2_ n3_; clear hb hbox hg; have hcz4_0 := bc_ BK221 0 (.int .i64 a0_0) rfl; have hcz4_1 := bc_ BK221 1 (.int .i64 a0_1) rfl; have hcz4_2 := bc_ BK221 2 (.int .i64 a0_2) rfl; have hfz4_0 := blk_frozen BK221.out 0; have hfz4_1 := blk_frozen BK221.out 1; have hfz4_2 := blk_frozen BK221.out 2) | ((with_reducible refine gate_callee (f := 91) rfl ?_); refine goesL_ (some 4) rfl rfl Try.func91 (by kernel_rfl) rfl #[.agg #[.int .i64 a0_0, .int .i64 a0_1, .int .i64 a0_2], .int .i64 0, .int .i64 1000000000000] rfl mt_ ?_; (with_reducible refine (impl_Vec_isFrom.calls a0_0 a0_1 a0_2 0 1000000000000 t222 _ A2.out).mono ?_); rintro e w5 ⟨rfl, hb⟩; refine ⟨_, rfl, ?_⟩; have n0_ := bb_ BK221 hb; have n1_ := Aside0.mk (below_step (bf_ HB) hb); clear BK221; clear HB; have BK221 := n0_; have HB := n1_; clear n0_ n1_; (try clear hb); (try clear hb2); (try clear hk); (try clear hi)))
 go_ret
 exact ⟨by first | rfl | (simp [errW_none, errW_some] <;> rfl) | (simp [*, errW_none, errW_some] <;> rfl), bf_ HB⟩

/-! ### impl_isDelta: function 90 -/
def impl_isDelta.f (a0 : Int) : Option (Bool) := (impl_within.f a0 0 10000000).bind fun t223 => (some t223)
set_option maxHeartbeats 8000000 in
set_option maxRecDepth 100000 in
theorem impl_isDelta.calls (a0 : Int) (r : Bool) (w : World) (h : impl_isDelta.f a0 = some r) :
  Calls Try.prog 90 #[.int .i64 a0] w fun e w' => e = .returned (.bool r) ∧ Drawn0 w w' := by
 have H : ((impl_within.f a0 0 10000000).bind fun t223 => (some t223)) = some r := h
 clear h
 replace H := Option.bind_eq_some_iff.mp H
 obtain ⟨t223, A20, H⟩ := H
 replace H : (some t223) = some r := H
 have A2 := Aside0.mk A20
 clear A20
 obtain rfl := Option.some.inj H
 go_enter Try.func90, Try.ntmps90
 go_wp2_with (first | ((with_reducible refine gate_callee (f := 96) rfl ?_); refine goesL_ (some 4) rfl rfl Try.func96 (by kernel_rfl) rfl #[.int .i64 a0, .int .i64 0, .int .i64 10000000] rfl mt_ ?_; (with_reducible refine (impl_within.calls a0 0 10000000 t223 _ A2.out).mono ?_); rintro e w' ⟨rfl, ⟨nd, rfl⟩⟩; refine ⟨_, rfl, ?_⟩))
 go_ret
 exact ⟨by first | rfl | (simp; done) | (simp [*]; done), by repeat (first | exact Drawn0.refl _ | apply Drawn0.step)⟩

end Go.Proofs.Ytljhaoiopokmfaa.PFnExactFairWake
