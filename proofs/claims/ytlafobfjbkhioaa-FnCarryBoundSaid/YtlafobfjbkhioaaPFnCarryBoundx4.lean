-- printed by a program of this session (wip/printx) out of the translation; Lean checks it
import Derived.Test.YtlafobfjbkhioaaVFnCarryBound
import Derived.Test.YtlafobfjbkhioaaPFnCarryBoundx0
import Derived.Test.YtlafobfjbkhioaaPFnCarryBoundx2
import Derived.Test.YtlafobfjbkhioaaPFnCarryBoundx3
namespace Go.Proofs.Ytlafobfjbkhioaa.PFnCarryBound
open Go.RowKit Go.Proofs.YtlafobfjbkhioaaW.PrintWords Go.Proofs.YtlafobfjbkhioaaW.PrintLast Go.Proofs.YtlafobfjbkhioaaW.PrintMore
attribute [local go_sem] max2_int min2_int max_two min_two max_three min_three max_four min_four   -- for this text's walks alone
set_option linter.unusedVariables false
set_option linter.unusedSimpArgs false

/-! ### spec_CarryRun: function 21 -/
mutual
def spec_CarryRun.l0 : Nat → List (S51) → List (S46) → List (S46) → Int → Int → Int → Int → Option ((List (S46)) × Int × Int × Int × Int)
  | 0, _, _, _, _, _, _, _ => none
  | k + 1, x0, x6, x7, x8, x303000, x303001, x303002 => if x8 < (x0.length : Int) then (if 0 ≤ x8 then ((spec_CostOk.f ((rd_T51 x0 x8).f1.f0) ((rd_T51 x0 x8).f1.f1) ((rd_T51 x0 x8).f1.f2)).bind fun t311 => (if t311 = true then (if (rd_T51 x0 x8).f0 = true then (spec_CarryRun.j1 k x0 x6 x7 x8 ((x7.length : Int) == 0) x303000 x303001 x303002 ((rd_T51 x0 x8).f0) ((rd_T51 x0 x8).f1.f0) ((rd_T51 x0 x8).f1.f1) ((rd_T51 x0 x8).f1.f2)) else (spec_CarryRun.j1 k x0 x6 x7 x8 false x303000 x303001 x303002 ((rd_T51 x0 x8).f0) ((rd_T51 x0 x8).f1.f0) ((rd_T51 x0 x8).f1.f1) ((rd_T51 x0 x8).f1.f2))) else (spec_CarryRun.j1 k x0 x6 x7 x8 true x303000 x303001 x303002 ((rd_T51 x0 x8).f0) ((rd_T51 x0 x8).f1.f0) ((rd_T51 x0 x8).f1.f1) ((rd_T51 x0 x8).f1.f2)))) else (none)) else (some (x6, x303000, x303001, x303002, 0))
def spec_CarryRun.j1 : Nat → List (S51) → List (S46) → List (S46) → Int → Bool → Int → Int → Int → Bool → Int → Int → Int → Option ((List (S46)) × Int × Int × Int × Int)
  | 0, _, _, _, _, _, _, _, _, _, _, _, _ => none
  | k + 1, x0, x6, x7, x8, x43, x303000, x303001, x303002, x311000, x311001, x311002, x311003 => if x43 = true then (some (([] : List (S46)), 0, 0, 0, wrap64 (x8 + 1))) else (if x311000 = true then (if 0 < (x7.length : Int) then ((spec_Settle.f k x303000 x303001 x303002 ((rd_T46 x7 0).f0) ((rd_T46 x7 0).f1) ((rd_T46 x7 0).f2) x311001 x311002 x311003).bind fun bt313 => ((some (([] : List (S46)) : List (S46))).bind fun y318 => (if 1 ≤ (x7.length : Int) then ((some (x7.drop 1 : List (S46))).bind fun y321 => (if y318.length + y321.length < 5864062014805 then (spec_CarryRun.l0 k x0 x6 (y318 ++ y321) (wrap64 (x8 + 1)) bt313.1 bt313.2.1 bt313.2.2.1) else (none))) else (none)))) else (none)) else ((spec_Charge.f k x311001 x311002 x311003 x303000 x303001 x303002).bind fun bt328 => (if x6.length < 5864062014805 then (if x7.length < 5864062014805 then (spec_CarryRun.l0 k x0 (x6 ++ [(⟨bt328.1, bt328.2.1, bt328.2.2.1⟩ : S46)]) (x7 ++ [(⟨x311001, x311002, x311003⟩ : S46)]) (wrap64 (x8 + 1)) bt328.2.2.2.1 bt328.2.2.2.2.1 bt328.2.2.2.2.2) else (none)) else (none))))
end
def spec_CarryRun.f (k : Nat) (l0 : List (S51)) : Option ((List (S46)) × Int × Int × Int × Int) := if (l0.length : Int) > 1000 then (some (([] : List (S46)), 0, 0, 0, (-1))) else (spec_CarryRun.l0 k l0 (([] : List (S46))) (([] : List (S46))) 0 0 0 0)
theorem spec_CarryRun.mono_l : ∀ k, (∀ y0 y1 y2 y3 y4 y5 y6, LeO (spec_CarryRun.l0 k y0 y1 y2 y3 y4 y5 y6) (spec_CarryRun.l0 (k + 1) y0 y1 y2 y3 y4 y5 y6)) ∧ (∀ y0 y1 y2 y3 y4 y5 y6 y7 y8 y9 y10 y11, LeO (spec_CarryRun.j1 k y0 y1 y2 y3 y4 y5 y6 y7 y8 y9 y10 y11) (spec_CarryRun.j1 (k + 1) y0 y1 y2 y3 y4 y5 y6 y7 y8 y9 y10 y11))
 | 0 => ⟨fun _ _ _ _ _ _ _ r h => by simp [spec_CarryRun.l0] at h, fun _ _ _ _ _ _ _ _ _ _ _ _ r h => by simp [spec_CarryRun.j1] at h⟩
 | k + 1 => by
  obtain ⟨ih0, ih1⟩ := spec_CarryRun.mono_l k
  refine ⟨?_, ?_⟩
  ·intro y0 y1 y2 y3 y4 y5 y6
   unfold spec_CarryRun.l0
   repeat' first
   | (with_reducible exact ih0 _ _ _ _ _ _ _)
   | (with_reducible exact ih1 _ _ _ _ _ _ _ _ _ _ _ _)
   | (with_reducible exact spec_Charge.mono _ _ _ _ _ _ _)
   | (with_reducible exact spec_Settle.mono _ _ _ _ _ _ _ _ _ _)
   | (with_reducible exact LeO.refl _)
   | (with_reducible exact LeO.none _)
   | (with_reducible refine LeO.ite ?_ ?_)
   | (with_reducible refine LeO.bind ?_ (fun _ => ?_))
   | exact ih0 _ _ _ _ _ _ _
   | exact ih1 _ _ _ _ _ _ _ _ _ _ _ _
   | exact spec_Charge.mono _ _ _ _ _ _ _
   | exact spec_Settle.mono _ _ _ _ _ _ _ _ _ _
   | exact LeO.none _
   | refine LeO.ite ?_ ?_
   | refine LeO.bind ?_ (fun _ => ?_)
  ·intro y0 y1 y2 y3 y4 y5 y6 y7 y8 y9 y10 y11
   unfold spec_CarryRun.j1
   repeat' first
   | (with_reducible exact ih0 _ _ _ _ _ _ _)
   | (with_reducible exact ih1 _ _ _ _ _ _ _ _ _ _ _ _)
   | (with_reducible exact spec_Charge.mono _ _ _ _ _ _ _)
   | (with_reducible exact spec_Settle.mono _ _ _ _ _ _ _ _ _ _)
   | (with_reducible exact LeO.refl _)
   | (with_reducible exact LeO.none _)
   | (with_reducible refine LeO.ite ?_ ?_)
   | (with_reducible refine LeO.bind ?_ (fun _ => ?_))
   | exact ih0 _ _ _ _ _ _ _
   | exact ih1 _ _ _ _ _ _ _ _ _ _ _ _
   | exact spec_Charge.mono _ _ _ _ _ _ _
   | exact spec_Settle.mono _ _ _ _ _ _ _ _ _ _
   | exact LeO.none _
   | refine LeO.ite ?_ ?_
   | refine LeO.bind ?_ (fun _ => ?_)
theorem spec_CarryRun.mono : ∀ a0 k, LeO (spec_CarryRun.f k a0) (spec_CarryRun.f (k + 1) a0) := by
 intro a0 k
 obtain ⟨ih0, ih1⟩ := spec_CarryRun.mono_l k
 unfold spec_CarryRun.f
 repeat' first
   | (with_reducible exact ih0 _ _ _ _ _ _ _)
   | (with_reducible exact ih1 _ _ _ _ _ _ _ _ _ _ _ _)
   | (with_reducible exact spec_Charge.mono _ _ _ _ _ _ _)
   | (with_reducible exact spec_Settle.mono _ _ _ _ _ _ _ _ _ _)
   | (with_reducible exact LeO.refl _)
   | (with_reducible exact LeO.none _)
   | (with_reducible refine LeO.ite ?_ ?_)
   | (with_reducible refine LeO.bind ?_ (fun _ => ?_))
   | exact ih0 _ _ _ _ _ _ _
   | exact ih1 _ _ _ _ _ _ _ _ _ _ _ _
   | exact spec_Charge.mono _ _ _ _ _ _ _
   | exact spec_Settle.mono _ _ _ _ _ _ _ _ _ _
   | exact LeO.none _
   | refine LeO.ite ?_ ?_
   | refine LeO.bind ?_ (fun _ => ?_)
def spec_CarryRun.T13 : Bool × List (List Nat × List Nat) := (true, [([], []), ([], []), ([1], [1]), ([2], [2]), ([], []), ([4], [4]), ([0, 3, 5], [0, 3, 5]), ([6], [6]), ([7], [7]), ([7], [7]), ([], []), ([10, 8, 6, 0, 1, 2, 3, 4, 5, 6, 7, 8, 10], [8, 10]), ([9, 11, 0, 1, 2, 3, 4, 5, 6, 7, 8, 9, 10, 11], [9])])
def spec_CarryRun.B13 : List Nat := [0, 0, 2, 6, 0, 16, 63, 127, 255, 255, 0, 1535, 4095]
theorem spec_CarryRun.tab13 : rtab .any (opsOf Try.f21 13) = spec_CarryRun.T13 := by kernel_rfl
theorem spec_CarryRun.bits13 : waitsOk spec_CarryRun.T13.2 spec_CarryRun.B13 = true := by kernel_rfl
set_option maxHeartbeats 8000000 in
set_option maxRecDepth 100000 in
theorem spec_CarryRun.calls (k : Nat) (A0 : Option Addr) (c0 : Nat) (l0 : List (S51)) (r1 : List (S46)) (r2 : Int) (r3 : Int) (r4 : Int) (r5 : Int) (w : World) (hr0 : Kd.C k51 w A0 l0.length l0) (hc0 : l0.length ≤ c0) (h : spec_CarryRun.f k l0 = some (r1, r2, r3, r4, r5)) :
  Calls Try.prog 21 #[.slice A0 l0.length c0] w fun e w' => ∃ v0_ : Value, e = .returned (.tuple #[v0_, .agg #[.int .i64 r2, .int .i64 r3, .int .i64 r4], .int .i64 r5]) ∧ Kd.R k46 46 w' w.heap.size (fun _ => True) v0_ r1 ∧ Below w.heap.size w w' := by
 have hu46 := Try.underlying46; have hu51 := Try.underlying51
 have HR0 := Aside0.mk hr0
 have HC0 := Aside0.mk hc0
 clear hr0 hc0; have HB := Aside0.mk (Below.refl w.heap.size w)
 have H : (if (l0.length : Int) > 1000 then (some (([] : List (S46)), 0, 0, 0, (-1))) else (spec_CarryRun.l0 k l0 (([] : List (S46))) (([] : List (S46))) 0 0 0 0)) = some (r1, r2, r3, r4, r5) := h
 clear h
 by_cases c2 : (l0.length : Int) > 1000
 ·rw [if_pos c2] at H
  have c2b0 : decide (1000 < (l0.length : Int)) = true := decide_eq_true c2
  have c2b1 : decide (1000 < l0.length) = true := decide_eq_true (by omega)
  clear c2
  simp only [Option.some.injEq, Prod.mk.injEq] at H
  obtain ⟨rfl, rfl, rfl, rfl, rfl⟩ := H
  go_enter Try.func21, Try.ntmps21
  go_wp2_with (first | ((with_reducible refine gd_ 3 rfl ?_); (try (refine gate_guard (by rfl) ?_; dsimp only)); refine bv_ 3 #[.int .i64 0, .int .i64 0, .int .i64 0] 46 ?_; intro gb301 hg w3 hbox hb; have BK301 := Aside0.mk (hbox); have GW301 := gw_ HB hg; have GE301 := gw_ HB hg; replace HB := Aside0.mk (below_step (be_ HB) hb); clear hb hbox hg; obtain ⟨hcz4_0, hcz4_1, hcz4_2, hfz4_0, hfz4_1, hfz4_2⟩ := bz3_ BK301))
  refine bodyPost_ret (results_list (rs := [.tmp 2, .cell 3 46, .tmp 4]) rfl (by simp) (.tmp (.cell gb301 46 #[.int .i64 0, .int .i64 0, .int .i64 0] (0, 0) _ rfl (by (with_reducible repeat (first | refine blk_drewN ?_ _ | refine blk_drew ?_ | refine blk_alloc ?_ _)); refine blk_put (cs := #[.int .i64 0, .int .i64 0, .int .i64 0]) ?_ 2 _ rfl; (with_reducible repeat (first | refine blk_drewN ?_ _ | refine blk_drew ?_ | refine blk_alloc ?_ _)); refine blk_put (cs := #[.int .i64 0, .int .i64 0, .int .i64 0]) ?_ 1 _ rfl; (with_reducible repeat (first | refine blk_drewN ?_ _ | refine blk_drew ?_ | refine blk_alloc ?_ _)); refine blk_put (cs := #[.int .i64 0, .int .i64 0, .int .i64 0]) ?_ 0 _ rfl; exact bk_ BK301) Try.underlying46 rfl (by kernel_rfl) (.tmp .nil)))) rfl ?_
  exact ⟨_, by first | rfl | (simp [errW_none, errW_some] <;> rfl) | (simp [*, errW_none, errW_some] <;> rfl), by first | exact Kd.R_nil _ _ _ _ _ | exact Kd.N_nil _ _ _ _ _ | exact Kd.V_nil _ _ _ _ _ | exact Kd.Q_nil _ _ _ _ _ | exact Kd.S_nil _ _ _ _ _, bf_ HB⟩
 ·rw [if_neg c2] at H
  have c2b0 : decide (1000 < (l0.length : Int)) = false := decide_eq_false c2
  have c2b1 : decide (1000 < l0.length) = false := decide_eq_false (by omega)
  clear c2
  obtain ⟨y303, hy303⟩ : ∃ y_ : List (S46), y_ = (([] : List (S46))) := ⟨_, rfl⟩
  replace H : (spec_CarryRun.l0 k l0 y303 (([] : List (S46))) 0 0 0 0) = some (r1, r2, r3, r4, r5) := by first | (rw [hy303]; with_reducible exact H) | (have H2_ := (Option.bind_some _ _).symm.trans H; rw [hy303]; with_reducible exact H2_) | (have H2_ := (Option.bind_some _ _).symm.trans H; with_reducible exact H2_) | with_reducible exact H | (rw [hy303]; exact H) | exact H
  have Ny303 := Aside0.mk hy303
  clear hy303
  obtain ⟨y306, hy306⟩ : ∃ y_ : List (S46), y_ = (([] : List (S46))) := ⟨_, rfl⟩
  replace H : (spec_CarryRun.l0 k l0 y303 y306 0 0 0 0) = some (r1, r2, r3, r4, r5) := by first | (rw [hy306]; with_reducible exact H) | (have H2_ := (Option.bind_some _ _).symm.trans H; rw [hy306]; with_reducible exact H2_) | (have H2_ := (Option.bind_some _ _).symm.trans H; with_reducible exact H2_) | with_reducible exact H | (rw [hy306]; exact H) | exact H
  have Ny306 := Aside0.mk hy306
  clear hy306
  have H' := Aside0.mk H
  clear H
  go_enter Try.func21, Try.ntmps21
  go_wp2_with (first | ((with_reducible refine gd_ 3 rfl ?_); (try (refine gate_guard (by rfl) ?_; dsimp only)); refine bv_ 3 #[.int .i64 0, .int .i64 0, .int .i64 0] 46 ?_; intro gb301 hg w5 hbox hb; have BK301 := Aside0.mk (hbox); have GW301 := gw_ HB hg; have GE301 := gw_ HB hg; replace HB := Aside0.mk (below_step (be_ HB) hb); clear hb hbox hg) | ((with_reducible refine gd_ 5 rfl ?_); (try (refine gate_guard (by rfl) ?_; dsimp only)); refine bv_ 5 #[.int .i64 0, .int .i64 0, .int .i64 0] 46 ?_; intro gb302 hg w6 hbox hb; have BK302 := Aside0.mk (hbox); have GW302 := gw_ HB hg; have GE302 := gw_ HB hg; replace HB := Aside0.mk (below_step (bf_ HB) hb); have NB301_302 := nl_ BK301 hg; have NB302_301 := ng_ BK301 hg; replace BK301 := bb_ BK301 hb; clear hb hbox hg; have hnb7 := NB302_301.out; have hnc7 := NB301_302.out; obtain ⟨hcz8_0, hcz8_1, hcz8_2, hfz8_0, hfz8_1, hfz8_2⟩ := bz3_ BK302) | ((with_reducible refine gd_ 19 rfl ?_); (try (refine gate_guard (by rfl) ?_; dsimp only)); refine Kd.R_lit k46 _ 46 ?hg (N := 19) ?hd (xs := ([] : List (S46))) (inner := []) (ok := fun _ => True) (okp := fun _ => True) ?hr ?hp (fun _ hk => by first | exact hk | grind) trivial (Below.refl _ _) (Nat.le_refl _) (by simp) ?_; (case hd => rfl); (case hg => rfl); (case hr => first | (go_simp; done) | (go_simp; rfl)); (case hp => exact (Reps.none _ _)); intro v304 w9 ho10 hb hg_ hnew_; clear hg_ hnew_; (first | rw [← Ny303.out] at ho10 | (simp only [Int.reduceToNat] at ho10; rw [← Ny303.out] at ho10)); have HO305 := Aside0.mk (Kd.R_lower (Kd.R_newB (Kd.R_newB ho10 (g := gb301) (o := .cells #[.int .i64 0, .int .i64 0, .int .i64 0] 46 (0, 0)) (bl_ BK301)) (g := gb302) (o := .cells #[.int .i64 0, .int .i64 0, .int .i64 0] 46 (0, 0)) (by (with_reducible repeat (first | refine blk_drewN ?_ _ | refine blk_drew ?_ | refine blk_alloc ?_ _)); refine blk_put (cs := #[.int .i64 0, .int .i64 0, .int .i64 0]) ?_ 2 _ rfl; (with_reducible repeat (first | refine blk_drewN ?_ _ | refine blk_drew ?_ | refine blk_alloc ?_ _)); refine blk_put (cs := #[.int .i64 0, .int .i64 0, .int .i64 0]) ?_ 1 _ rfl; (with_reducible repeat (first | refine blk_drewN ?_ _ | refine blk_drew ?_ | refine blk_alloc ?_ _)); refine blk_put (cs := #[.int .i64 0, .int .i64 0, .int .i64 0]) ?_ 0 _ rfl; exact bk_ BK302)) (below_size (bf_ HB))); replace BK301 := bm_ BK301 hb; replace BK302 := Aside0.mk (blk_below (g := gb302) (o := .cells #[.int .i64 0, .int .i64 0, .int .i64 0] 46 (0, 0)) (by (with_reducible repeat (first | refine blk_drewN ?_ _ | refine blk_drew ?_ | refine blk_alloc ?_ _)); refine blk_put (cs := #[.int .i64 0, .int .i64 0, .int .i64 0]) ?_ 2 _ rfl; (with_reducible repeat (first | refine blk_drewN ?_ _ | refine blk_drew ?_ | refine blk_alloc ?_ _)); refine blk_put (cs := #[.int .i64 0, .int .i64 0, .int .i64 0]) ?_ 1 _ rfl; (with_reducible repeat (first | refine blk_drewN ?_ _ | refine blk_drew ?_ | refine blk_alloc ?_ _)); refine blk_put (cs := #[.int .i64 0, .int .i64 0, .int .i64 0]) ?_ 0 _ rfl; exact bk_ BK302) hb); replace HB := Aside0.mk (below_step (bf_ HB) hb); clear hb ho10) | ((with_reducible refine gd_ 20 rfl ?_); (try (refine gate_guard (by rfl) ?_; dsimp only)); refine Kd.R_lit k46 _ 46 ?hg (N := 20) ?hd (xs := ([] : List (S46))) (inner := []) (ok := fun _ => True) (okp := fun _ => True) ?hr ?hp (fun _ hk => by first | exact hk | grind) trivial (Below.refl _ _) (Nat.le_refl _) (by simp) ?_; (case hd => rfl); (case hg => rfl); (case hr => first | (go_simp; done) | (go_simp; rfl)); (case hp => exact (Reps.none _ _)); intro v307 w11 ho12 hb hg_ hnew_; clear hg_ hnew_; (first | rw [← Ny306.out] at ho12 | (simp only [Int.reduceToNat] at ho12; rw [← Ny306.out] at ho12)); have HO308 := Aside0.mk (Kd.R_lower (Kd.R_newB (Kd.R_newB (Kd.R_new' ho12 (Kd.R_lt (kr_ HO305))) (g := gb301) (o := .cells #[.int .i64 0, .int .i64 0, .int .i64 0] 46 (0, 0)) (bk_ BK301)) (g := gb302) (o := .cells #[.int .i64 0, .int .i64 0, .int .i64 0] 46 (0, 0)) (bk_ BK302)) (below_size (bf_ HB))); replace HO305 := Aside0.mk (Kd.R_elder' (kr_ HO305) (Kd.R_base ho12) hb); replace BK301 := bb_ BK301 hb; replace BK302 := bb_ BK302 hb; replace HB := Aside0.mk (below_step (bf_ HB) hb); clear hb ho12))
  go_loopg [6, 7, 8] k (fun kq v6 v7 v8 w' => ∃ (x6_1 : List (S46)) (x7_1 : List (S46)) (x8_1 : Int) (x302000_1 : Int) (x302001_1 : Int) (x302002_1 : Int) (x303000_1 : Int) (x303001_1 : Int) (x303002_1 : Int), v8 = .int .i64 x8_1 ∧ Aside0 (spec_CarryRun.l0 kq l0 x6_1 x7_1 x8_1 x303000_1 x303001_1 x303002_1 = some (r1, r2, r3, r4, r5)) ∧ Aside0 (kq ≤ k) ∧ Aside0 (Kd.R k46 46 w' w.heap.size (fun k_ => some k_ ≠ (v7 : Value).ownBlock ∧ k_ ≠ gb301 ∧ k_ ≠ gb302) v6 x6_1) ∧ Aside0 (Kd.R k46 46 w' w.heap.size (fun k_ => some k_ ≠ (v6 : Value).ownBlock ∧ k_ ≠ gb301 ∧ k_ ≠ gb302) v7 x7_1) ∧ Aside0 (w'.heap[gb301]? = some (.cells #[.int .i64 x302000_1, .int .i64 x302001_1, .int .i64 x302002_1] 46 (0, 0))) ∧ Aside0 (w'.heap[gb302]? = some (.cells #[.int .i64 x303000_1, .int .i64 x303001_1, .int .i64 x303002_1] 46 (0, 0))) ∧ Aside0 (Below w.heap.size w w'))
  case atStart => exact ⟨(y303), (y306), (0), (0), (0), (0), (0), (0), (0), (by first | rfl | (simp; done) | (simp [*]; done)), H', ⟨Nat.le_refl _⟩, ⟨by (with_reducible repeat (first | apply Kd.R_alloc | apply Kd.R_drewN | apply Kd.R_drew)); exact Kd.R_mono HO305.out (fun _ hk => by first | exact ⟨hk.2, ⟨hk.1.1.2, hk.1.2⟩⟩ | grind)⟩, ⟨by (with_reducible repeat (first | apply Kd.R_alloc | apply Kd.R_drewN | apply Kd.R_drew)); exact Kd.R_mono HO308.out (fun _ hk => by first | exact ⟨hk.1.1.2, ⟨hk.1.2, hk.2⟩⟩ | grind)⟩, ⟨bk_ BK301⟩, ⟨bk_ BK302⟩, ⟨bf_ HB⟩⟩
  case round =>
   clear H'
   (try clear c2); (try clear c2b0); (try clear c2b1); (try clear p2); (try clear c7); (try clear hcz4_0 hcz4_1 hcz4_2 hfz4_0 hfz4_1 hfz4_2); (try clear hcz8_0 hcz8_1 hcz8_2 hfz8_0 hfz8_1 hfz8_2)
   obtain ⟨x6_1, x7_1, x8_1, x302000_1, x302001_1, x302002_1, x303000_1, x303001_1, x303002_1, rfl, HA, HK1, HO_6, HO_7, BK301, BK302, HB⟩ := hrel
   cases gk with
   | zero => exact absurd HA.out (by simp [spec_CarryRun.l0])
   | succ k1 =>
    have H := HA.out
    clear HA
    simp only [spec_CarryRun.l0] at H
    by_cases c13 : x8_1 < (l0.length : Int)
    ·rw [if_pos c13] at H
     have c13b0 : decide (x8_1 < (l0.length : Int)) = true := decide_eq_true c13
     clear c13
     by_cases c14 : 0 ≤ x8_1
     ·rw [if_pos c14] at H
      have c14b0 : decide (0 ≤ x8_1) = true := decide_eq_true c14
      clear c14
      have HC15 := Aside0.mk H
      clear H
      have p309 : 0 ≤ (x8_1 : Int) := od_
      have q309 : x8_1 < (l0.length : Int) := od_
      obtain ⟨ad309, e309, hx309_0, hx309_1, hx309_2, hx309_3⟩ := at_T51 HR0.out x8_1 p309 q309
      cases e309
      replace hx309_0 := hb_ HB hx309_0
      replace hx309_1 := hb_ HB hx309_1
      replace hx309_2 := hb_ HB hx309_2
      replace hx309_3 := hb_ HB hx309_3
      replace p309 := eq_true p309
      replace q309 := eq_true q309
      go_upto_region 10 with (first | ((with_reducible refine gd_ 9 rfl ?_); (try (refine gate_guard (by rfl) ?_; dsimp only)); refine bv_ 9 #[.bool false, .int .i64 0, .int .i64 0, .int .i64 0] 51 ?_; intro gb310 hg w16 hbox hb; replace HO_6 := Aside0.mk (Kd.R_below (kr_ HO_6) hb); replace HO_7 := Aside0.mk (Kd.R_below (kr_ HO_7) hb); have BK310 := Aside0.mk (hbox); have GW310 := gw_ HB hg; have GE310 := gw_ HB hg; replace HB := Aside0.mk (below_step (bf_ HB) hb); have NB301_310 := nl_ BK301 hg; have NB310_301 := ng_ BK301 hg; replace BK301 := bb_ BK301 hb; have NB302_310 := nl_ BK302 hg; have NB310_302 := ng_ BK302 hg; replace BK302 := bb_ BK302 hb; clear hb hbox hg; have hnb17 := NB310_301.out; have hnc17 := NB301_310.out; have hnb18 := NB310_302.out; have hnc18 := NB302_310.out; obtain ⟨hcz19_0, hcz19_1, hcz19_2, hcz19_3, hfz19_0, hfz19_1, hfz19_2, hfz19_3⟩ := bz4_ BK310))
      (try simp only [Act.put, ls0_, ls1_, ls2_])
      go_cut [43] (fun v43 wc => ∃ (kq : Nat) (x43_14 : Bool), v43 = .bool x43_14 ∧ Aside0 (spec_CarryRun.j1 kq l0 x6_1 x7_1 x8_1 x43_14 x303000_1 x303001_1 x303002_1 ((rd_T51 l0 x8_1).f0) ((rd_T51 l0 x8_1).f1.f0) ((rd_T51 l0 x8_1).f1.f1) ((rd_T51 l0 x8_1).f1.f2) = some (r1, r2, r3, r4, r5)) ∧ Aside0 (kq ≤ k1) ∧ Aside0 (Kd.R k46 46 wc w.heap.size (fun k_ => some k_ ≠ (u7 : Value).ownBlock ∧ k_ ≠ gb301 ∧ k_ ≠ gb302) u6 x6_1) ∧ Aside0 (Kd.R k46 46 wc w.heap.size (fun k_ => some k_ ≠ (u6 : Value).ownBlock ∧ k_ ≠ gb301 ∧ k_ ≠ gb302) u7 x7_1) ∧ Aside0 (wc.heap[gb301]? = some (.cells #[.int .i64 x302000_1, .int .i64 x302001_1, .int .i64 x302002_1] 46 (0, 0))) ∧ Aside0 (wc.heap[gb302]? = some (.cells #[.int .i64 x303000_1, .int .i64 x303001_1, .int .i64 x303002_1] 46 (0, 0))) ∧ Aside0 (wc.heap[gb310]? = some (.cells #[.bool ((rd_T51 l0 x8_1).f0), .int .i64 ((rd_T51 l0 x8_1).f1.f0), .int .i64 ((rd_T51 l0 x8_1).f1.f1), .int .i64 ((rd_T51 l0 x8_1).f1.f2)] 51 (0, 0))) ∧ Aside0 (Below w.heap.size w wc))
      case first =>
       have H := HC15.out
       clear HC15
       replace H := Option.bind_eq_some_iff.mp H
       obtain ⟨t311, A200, H⟩ := H
       replace H : (if t311 = true then (if (rd_T51 l0 x8_1).f0 = true then (spec_CarryRun.j1 k1 l0 x6_1 x7_1 x8_1 ((x7_1.length : Int) == 0) x303000_1 x303001_1 x303002_1 ((rd_T51 l0 x8_1).f0) ((rd_T51 l0 x8_1).f1.f0) ((rd_T51 l0 x8_1).f1.f1) ((rd_T51 l0 x8_1).f1.f2)) else (spec_CarryRun.j1 k1 l0 x6_1 x7_1 x8_1 false x303000_1 x303001_1 x303002_1 ((rd_T51 l0 x8_1).f0) ((rd_T51 l0 x8_1).f1.f0) ((rd_T51 l0 x8_1).f1.f1) ((rd_T51 l0 x8_1).f1.f2))) else (spec_CarryRun.j1 k1 l0 x6_1 x7_1 x8_1 true x303000_1 x303001_1 x303002_1 ((rd_T51 l0 x8_1).f0) ((rd_T51 l0 x8_1).f1.f0) ((rd_T51 l0 x8_1).f1.f1) ((rd_T51 l0 x8_1).f1.f2))) = some (r1, r2, r3, r4, r5) := H
       have A20 := Aside0.mk A200
       clear A200
       by_cases c21 : t311 = true
       ·subst c21
        have H1 : (if (rd_T51 l0 x8_1).f0 = true then (spec_CarryRun.j1 k1 l0 x6_1 x7_1 x8_1 ((x7_1.length : Int) == 0) x303000_1 x303001_1 x303002_1 ((rd_T51 l0 x8_1).f0) ((rd_T51 l0 x8_1).f1.f0) ((rd_T51 l0 x8_1).f1.f1) ((rd_T51 l0 x8_1).f1.f2)) else (spec_CarryRun.j1 k1 l0 x6_1 x7_1 x8_1 false x303000_1 x303001_1 x303002_1 ((rd_T51 l0 x8_1).f0) ((rd_T51 l0 x8_1).f1.f0) ((rd_T51 l0 x8_1).f1.f1) ((rd_T51 l0 x8_1).f1.f2))) = some (r1, r2, r3, r4, r5) := by rw [if_pos rfl] at H; exact H
        clear H
        have H := H1
        clear H1
        obtain ⟨bq22, hbq22⟩ : ∃ b_ : Bool, b_ = ((rd_T51 l0 x8_1).f0) := ⟨_, rfl⟩
        replace H : (if bq22 = true then (spec_CarryRun.j1 k1 l0 x6_1 x7_1 x8_1 ((x7_1.length : Int) == 0) x303000_1 x303001_1 x303002_1 bq22 ((rd_T51 l0 x8_1).f1.f0) ((rd_T51 l0 x8_1).f1.f1) ((rd_T51 l0 x8_1).f1.f2)) else (spec_CarryRun.j1 k1 l0 x6_1 x7_1 x8_1 false x303000_1 x303001_1 x303002_1 bq22 ((rd_T51 l0 x8_1).f1.f0) ((rd_T51 l0 x8_1).f1.f1) ((rd_T51 l0 x8_1).f1.f2))) = some (r1, r2, r3, r4, r5) := by rw [← hbq22] at H; exact H
        have Nbq22 := Aside0.mk hbq22
        clear hbq22
        (try rw [← Nbq22.out])
        by_cases c23 : bq22 = true
        ·subst c23
         have H1 : (spec_CarryRun.j1 k1 l0 x6_1 x7_1 x8_1 ((x7_1.length : Int) == 0) x303000_1 x303001_1 x303002_1 true ((rd_T51 l0 x8_1).f1.f0) ((rd_T51 l0 x8_1).f1.f1) ((rd_T51 l0 x8_1).f1.f2)) = some (r1, r2, r3, r4, r5) := by rw [if_pos rfl] at H; exact H
         clear H
         have H := H1
         clear H1
         have H' := Aside0.mk H
         clear H; have hnb24 := NB310_301.out; have hnc24 := NB301_310.out; have hnb25 := NB310_302.out; have hnc25 := NB302_310.out; obtain ⟨hcz26_0, hcz26_1, hcz26_2, hcz26_3, hfz26_0, hfz26_1, hfz26_2, hfz26_3⟩ := bz4_ BK310
         go_wp2_with (first | ((with_reducible refine gc_ 61 rfl ?_); refine gl_ 33 Try.func61 #[.agg #[.int .i64 ((rd_T51 l0 x8_1).f1.f0), .int .i64 ((rd_T51 l0 x8_1).f1.f1), .int .i64 ((rd_T51 l0 x8_1).f1.f2)]] ?_; (with_reducible refine (spec_CostOk.calls ((rd_T51 l0 x8_1).f1.f0) ((rd_T51 l0 x8_1).f1.f1) ((rd_T51 l0 x8_1).f1.f2) true _ A20.out).mono ?_); rintro e w27 ⟨rfl, hb⟩; refine ⟨_, rfl, ?_⟩; replace HO_6 := Aside0.mk (Kd.R_below (by (with_reducible repeat (first | apply Kd.R_alloc | apply Kd.R_drewN | apply Kd.R_drew)); exact (Kd.R_mono (Kd.R_far (p := ⟨gb310, 3, none⟩) (Kd.R_far (p := ⟨gb310, 2, none⟩) (Kd.R_far (p := ⟨gb310, 1, none⟩) (Kd.R_far (p := ⟨gb310, 0, none⟩) (Kd.R_types HO_6.out BK310.out (by decide)) (fun _ hk => by first | exact hk.2 | grind) (.bool (true))) (fun _ hk => by first | exact hk.2 | grind) (.int .i64 ((rd_T51 l0 x8_1).f1.f0))) (fun _ hk => by first | exact hk.2 | grind) (.int .i64 ((rd_T51 l0 x8_1).f1.f1))) (fun _ hk => by first | exact hk.2 | grind) (.int .i64 ((rd_T51 l0 x8_1).f1.f2))) (fun _ h_ => h_.1))) hb); replace HO_7 := Aside0.mk (Kd.R_below (by (with_reducible repeat (first | apply Kd.R_alloc | apply Kd.R_drewN | apply Kd.R_drew)); exact (Kd.R_mono (Kd.R_far (p := ⟨gb310, 3, none⟩) (Kd.R_far (p := ⟨gb310, 2, none⟩) (Kd.R_far (p := ⟨gb310, 1, none⟩) (Kd.R_far (p := ⟨gb310, 0, none⟩) (Kd.R_types HO_7.out BK310.out (by decide)) (fun _ hk => by first | exact hk.2 | grind) (.bool (true))) (fun _ hk => by first | exact hk.2 | grind) (.int .i64 ((rd_T51 l0 x8_1).f1.f0))) (fun _ hk => by first | exact hk.2 | grind) (.int .i64 ((rd_T51 l0 x8_1).f1.f1))) (fun _ hk => by first | exact hk.2 | grind) (.int .i64 ((rd_T51 l0 x8_1).f1.f2))) (fun _ h_ => h_.1))) hb); replace BK301 := bm_ BK301 hb; replace BK302 := bm_ BK302 hb; replace BK310 := Aside0.mk (blk_below (g := gb310) (o := .cells #[.bool true, .int .i64 ((rd_T51 l0 x8_1).f1.f0), .int .i64 ((rd_T51 l0 x8_1).f1.f1), .int .i64 ((rd_T51 l0 x8_1).f1.f2)] 51 (0, 0)) (by (with_reducible repeat (first | refine blk_drewN ?_ _ | refine blk_drew ?_ | refine blk_alloc ?_ _)); refine blk_put (cs := #[.bool (true), .int .i64 ((rd_T51 l0 x8_1).f1.f0), .int .i64 ((rd_T51 l0 x8_1).f1.f1), .int .i64 0]) ?_ 3 _ rfl; (with_reducible repeat (first | refine blk_drewN ?_ _ | refine blk_drew ?_ | refine blk_alloc ?_ _)); refine blk_put (cs := #[.bool (true), .int .i64 ((rd_T51 l0 x8_1).f1.f0), .int .i64 0, .int .i64 0]) ?_ 2 _ rfl; (with_reducible repeat (first | refine blk_drewN ?_ _ | refine blk_drew ?_ | refine blk_alloc ?_ _)); refine blk_put (cs := #[.bool (true), .int .i64 0, .int .i64 0, .int .i64 0]) ?_ 1 _ rfl; (with_reducible repeat (first | refine blk_drewN ?_ _ | refine blk_drew ?_ | refine blk_alloc ?_ _)); refine blk_put (cs := #[.bool false, .int .i64 0, .int .i64 0, .int .i64 0]) ?_ 0 _ rfl; exact bk_ BK310) hb); replace HB := Aside0.mk (below_step (bf_ HB) hb); (try clear hb); (try clear hb2); (try clear hk); (try clear hi); have hcz28_0 := bc_ BK310 0 (.bool true) rfl; have hcz28_1 : w27.cell? ⟨gb310, 1, none⟩ = some (.int .i64 ((rd_T51 l0 x8_1).f1.f0)) := (blk_cell BK310.out 1).trans rfl; have hcz28_2 : w27.cell? ⟨gb310, 2, none⟩ = some (.int .i64 ((rd_T51 l0 x8_1).f1.f1)) := (blk_cell BK310.out 2).trans rfl; have hcz28_3 : w27.cell? ⟨gb310, 3, none⟩ = some (.int .i64 ((rd_T51 l0 x8_1).f1.f2)) := (blk_cell BK310.out 3).trans rfl; have hfz28_0 := blk_frozen BK310.out 0; have hfz28_1 := blk_frozen BK310.out 1; have hfz28_2 := blk_frozen BK310.out 2; have hfz28_3 := blk_frozen BK310.out 3; obtain ⟨Ao29, co29, eo29⟩ := Kd.R_slice HO_7.out; subst eo29))
         go_meet
         case rel => rw [← Nbq22.out]; exact ⟨_, (((x7_1.length : Int) == 0)), (by first | rfl | (simp; done) | (simp [*]; done)), H', ⟨by have := HK1.out; first | omega | exact Nat.le_refl _⟩, ⟨kr_ HO_6⟩, ⟨kr_ HO_7⟩, ⟨bk_ BK301⟩, ⟨bk_ BK302⟩, ⟨bk_ BK310⟩, ⟨bf_ HB⟩⟩
        ·replace c23 := Bool.eq_false_iff.mpr c23
         subst c23
         have H1 : (spec_CarryRun.j1 k1 l0 x6_1 x7_1 x8_1 false x303000_1 x303001_1 x303002_1 false ((rd_T51 l0 x8_1).f1.f0) ((rd_T51 l0 x8_1).f1.f1) ((rd_T51 l0 x8_1).f1.f2)) = some (r1, r2, r3, r4, r5) := by rw [if_neg (show ¬ (false = true) by decide)] at H; exact H
         clear H
         have H := H1
         clear H1
         have H' := Aside0.mk H
         clear H; have hnb30 := NB310_301.out; have hnc30 := NB301_310.out; have hnb31 := NB310_302.out; have hnc31 := NB302_310.out; obtain ⟨hcz32_0, hcz32_1, hcz32_2, hcz32_3, hfz32_0, hfz32_1, hfz32_2, hfz32_3⟩ := bz4_ BK310
         go_wp2_with (first | ((with_reducible refine gc_ 61 rfl ?_); refine gl_ 33 Try.func61 #[.agg #[.int .i64 ((rd_T51 l0 x8_1).f1.f0), .int .i64 ((rd_T51 l0 x8_1).f1.f1), .int .i64 ((rd_T51 l0 x8_1).f1.f2)]] ?_; (with_reducible refine (spec_CostOk.calls ((rd_T51 l0 x8_1).f1.f0) ((rd_T51 l0 x8_1).f1.f1) ((rd_T51 l0 x8_1).f1.f2) true _ A20.out).mono ?_); rintro e w33 ⟨rfl, hb⟩; refine ⟨_, rfl, ?_⟩; replace HO_6 := Aside0.mk (Kd.R_below (by (with_reducible repeat (first | apply Kd.R_alloc | apply Kd.R_drewN | apply Kd.R_drew)); exact (Kd.R_mono (Kd.R_far (p := ⟨gb310, 3, none⟩) (Kd.R_far (p := ⟨gb310, 2, none⟩) (Kd.R_far (p := ⟨gb310, 1, none⟩) (Kd.R_far (p := ⟨gb310, 0, none⟩) (Kd.R_types HO_6.out BK310.out (by decide)) (fun _ hk => by first | exact hk.2 | grind) (.bool (false))) (fun _ hk => by first | exact hk.2 | grind) (.int .i64 ((rd_T51 l0 x8_1).f1.f0))) (fun _ hk => by first | exact hk.2 | grind) (.int .i64 ((rd_T51 l0 x8_1).f1.f1))) (fun _ hk => by first | exact hk.2 | grind) (.int .i64 ((rd_T51 l0 x8_1).f1.f2))) (fun _ h_ => h_.1))) hb); replace HO_7 := Aside0.mk (Kd.R_below (by (with_reducible repeat (first | apply Kd.R_alloc | apply Kd.R_drewN | apply Kd.R_drew)); exact (Kd.R_mono (Kd.R_far (p := ⟨gb310, 3, none⟩) (Kd.R_far (p := ⟨gb310, 2, none⟩) (Kd.R_far (p := ⟨gb310, 1, none⟩) (Kd.R_far (p := ⟨gb310, 0, none⟩) (Kd.R_types HO_7.out BK310.out (by decide)) (fun _ hk => by first | exact hk.2 | grind) (.bool (false))) (fun _ hk => by first | exact hk.2 | grind) (.int .i64 ((rd_T51 l0 x8_1).f1.f0))) (fun _ hk => by first | exact hk.2 | grind) (.int .i64 ((rd_T51 l0 x8_1).f1.f1))) (fun _ hk => by first | exact hk.2 | grind) (.int .i64 ((rd_T51 l0 x8_1).f1.f2))) (fun _ h_ => h_.1))) hb); replace BK301 := bm_ BK301 hb; replace BK302 := bm_ BK302 hb; replace BK310 := Aside0.mk (blk_below (g := gb310) (o := .cells #[.bool false, .int .i64 ((rd_T51 l0 x8_1).f1.f0), .int .i64 ((rd_T51 l0 x8_1).f1.f1), .int .i64 ((rd_T51 l0 x8_1).f1.f2)] 51 (0, 0)) (by (with_reducible repeat (first | refine blk_drewN ?_ _ | refine blk_drew ?_ | refine blk_alloc ?_ _)); refine blk_put (cs := #[.bool (false), .int .i64 ((rd_T51 l0 x8_1).f1.f0), .int .i64 ((rd_T51 l0 x8_1).f1.f1), .int .i64 0]) ?_ 3 _ rfl; (with_reducible repeat (first | refine blk_drewN ?_ _ | refine blk_drew ?_ | refine blk_alloc ?_ _)); refine blk_put (cs := #[.bool (false), .int .i64 ((rd_T51 l0 x8_1).f1.f0), .int .i64 0, .int .i64 0]) ?_ 2 _ rfl; (with_reducible repeat (first | refine blk_drewN ?_ _ | refine blk_drew ?_ | refine blk_alloc ?_ _)); refine blk_put (cs := #[.bool (false), .int .i64 0, .int .i64 0, .int .i64 0]) ?_ 1 _ rfl; (with_reducible repeat (first | refine blk_drewN ?_ _ | refine blk_drew ?_ | refine blk_alloc ?_ _)); refine blk_put (cs := #[.bool false, .int .i64 0, .int .i64 0, .int .i64 0]) ?_ 0 _ rfl; exact bk_ BK310) hb); replace HB := Aside0.mk (below_step (bf_ HB) hb); (try clear hb); (try clear hb2); (try clear hk); (try clear hi); have hcz34_0 := bc_ BK310 0 (.bool false) rfl; have hcz34_1 : w33.cell? ⟨gb310, 1, none⟩ = some (.int .i64 ((rd_T51 l0 x8_1).f1.f0)) := (blk_cell BK310.out 1).trans rfl; have hcz34_2 : w33.cell? ⟨gb310, 2, none⟩ = some (.int .i64 ((rd_T51 l0 x8_1).f1.f1)) := (blk_cell BK310.out 2).trans rfl; have hcz34_3 : w33.cell? ⟨gb310, 3, none⟩ = some (.int .i64 ((rd_T51 l0 x8_1).f1.f2)) := (blk_cell BK310.out 3).trans rfl; have hfz34_0 := blk_frozen BK310.out 0; have hfz34_1 := blk_frozen BK310.out 1; have hfz34_2 := blk_frozen BK310.out 2; have hfz34_3 := blk_frozen BK310.out 3))
         go_meet
         case rel => rw [← Nbq22.out]; exact ⟨_, (false), (by first | rfl | (simp; done) | (simp [*]; done)), H', ⟨by have := HK1.out; first | omega | exact Nat.le_refl _⟩, ⟨kr_ HO_6⟩, ⟨kr_ HO_7⟩, ⟨bk_ BK301⟩, ⟨bk_ BK302⟩, ⟨bk_ BK310⟩, ⟨bf_ HB⟩⟩
       ·replace c21 := Bool.eq_false_iff.mpr c21
        subst c21
        have H1 : (spec_CarryRun.j1 k1 l0 x6_1 x7_1 x8_1 true x303000_1 x303001_1 x303002_1 ((rd_T51 l0 x8_1).f0) ((rd_T51 l0 x8_1).f1.f0) ((rd_T51 l0 x8_1).f1.f1) ((rd_T51 l0 x8_1).f1.f2)) = some (r1, r2, r3, r4, r5) := by rw [if_neg (show ¬ (false = true) by decide)] at H; exact H
        clear H
        have H := H1
        clear H1
        have H' := Aside0.mk H
        clear H; have hnb35 := NB310_301.out; have hnc35 := NB301_310.out; have hnb36 := NB310_302.out; have hnc36 := NB302_310.out; obtain ⟨hcz37_0, hcz37_1, hcz37_2, hcz37_3, hfz37_0, hfz37_1, hfz37_2, hfz37_3⟩ := bz4_ BK310
        go_wp2_with (first | ((with_reducible refine gc_ 61 rfl ?_); refine gl_ 33 Try.func61 #[.agg #[.int .i64 ((rd_T51 l0 x8_1).f1.f0), .int .i64 ((rd_T51 l0 x8_1).f1.f1), .int .i64 ((rd_T51 l0 x8_1).f1.f2)]] ?_; (with_reducible refine (spec_CostOk.calls ((rd_T51 l0 x8_1).f1.f0) ((rd_T51 l0 x8_1).f1.f1) ((rd_T51 l0 x8_1).f1.f2) false _ A20.out).mono ?_); rintro e w38 ⟨rfl, hb⟩; refine ⟨_, rfl, ?_⟩; replace HO_6 := Aside0.mk (Kd.R_below (by (with_reducible repeat (first | apply Kd.R_alloc | apply Kd.R_drewN | apply Kd.R_drew)); exact (Kd.R_mono (Kd.R_far (p := ⟨gb310, 3, none⟩) (Kd.R_far (p := ⟨gb310, 2, none⟩) (Kd.R_far (p := ⟨gb310, 1, none⟩) (Kd.R_far (p := ⟨gb310, 0, none⟩) (Kd.R_types HO_6.out BK310.out (by decide)) (fun _ hk => by first | exact hk.2 | grind) (.bool ((rd_T51 l0 x8_1).f0))) (fun _ hk => by first | exact hk.2 | grind) (.int .i64 ((rd_T51 l0 x8_1).f1.f0))) (fun _ hk => by first | exact hk.2 | grind) (.int .i64 ((rd_T51 l0 x8_1).f1.f1))) (fun _ hk => by first | exact hk.2 | grind) (.int .i64 ((rd_T51 l0 x8_1).f1.f2))) (fun _ h_ => h_.1))) hb); replace HO_7 := Aside0.mk (Kd.R_below (by (with_reducible repeat (first | apply Kd.R_alloc | apply Kd.R_drewN | apply Kd.R_drew)); exact (Kd.R_mono (Kd.R_far (p := ⟨gb310, 3, none⟩) (Kd.R_far (p := ⟨gb310, 2, none⟩) (Kd.R_far (p := ⟨gb310, 1, none⟩) (Kd.R_far (p := ⟨gb310, 0, none⟩) (Kd.R_types HO_7.out BK310.out (by decide)) (fun _ hk => by first | exact hk.2 | grind) (.bool ((rd_T51 l0 x8_1).f0))) (fun _ hk => by first | exact hk.2 | grind) (.int .i64 ((rd_T51 l0 x8_1).f1.f0))) (fun _ hk => by first | exact hk.2 | grind) (.int .i64 ((rd_T51 l0 x8_1).f1.f1))) (fun _ hk => by first | exact hk.2 | grind) (.int .i64 ((rd_T51 l0 x8_1).f1.f2))) (fun _ h_ => h_.1))) hb); replace BK301 := bm_ BK301 hb; replace BK302 := bm_ BK302 hb; replace BK310 := Aside0.mk (blk_below (g := gb310) (o := .cells #[.bool ((rd_T51 l0 x8_1).f0), .int .i64 ((rd_T51 l0 x8_1).f1.f0), .int .i64 ((rd_T51 l0 x8_1).f1.f1), .int .i64 ((rd_T51 l0 x8_1).f1.f2)] 51 (0, 0)) (by (with_reducible repeat (first | refine blk_drewN ?_ _ | refine blk_drew ?_ | refine blk_alloc ?_ _)); refine blk_put (cs := #[.bool ((rd_T51 l0 x8_1).f0), .int .i64 ((rd_T51 l0 x8_1).f1.f0), .int .i64 ((rd_T51 l0 x8_1).f1.f1), .int .i64 0]) ?_ 3 _ rfl; (with_reducible repeat (first | refine blk_drewN ?_ _ | refine blk_drew ?_ | refine blk_alloc ?_ _)); refine blk_put (cs := #[.bool ((rd_T51 l0 x8_1).f0), .int .i64 ((rd_T51 l0 x8_1).f1.f0), .int .i64 0, .int .i64 0]) ?_ 2 _ rfl; (with_reducible repeat (first | refine blk_drewN ?_ _ | refine blk_drew ?_ | refine blk_alloc ?_ _)); refine blk_put (cs := #[.bool ((rd_T51 l0 x8_1).f0), .int .i64 0, .int .i64 0, .int .i64 0]) ?_ 1 _ rfl; (with_reducible repeat (first | refine blk_drewN ?_ _ | refine blk_drew ?_ | refine blk_alloc ?_ _)); refine blk_put (cs := #[.bool false, .int .i64 0, .int .i64 0, .int .i64 0]) ?_ 0 _ rfl; exact bk_ BK310) hb); replace HB := Aside0.mk (below_step (bf_ HB) hb); (try clear hb); (try clear hb2); (try clear hk); (try clear hi)))
        go_meet
        case rel => exact ⟨_, (true), (by first | rfl | (simp; done) | (simp [*]; done)), H', ⟨by have := HK1.out; first | omega | exact Nat.le_refl _⟩, ⟨kr_ HO_6⟩, ⟨kr_ HO_7⟩, ⟨bk_ BK301⟩, ⟨bk_ BK302⟩, ⟨bk_ BK310⟩, ⟨bf_ HB⟩⟩
      case rest =>
       clear HC15; (try clear c1); (try clear c2); (try clear c2b0); (try clear c2b1); (try clear p2 p2); (try clear q2); (try clear c3); (try clear p3); (try clear q3); (try clear hx3); (try clear c6); (try clear c7); (try clear c13); (try clear c13b0); (try clear c14); (try clear c14b0); (try clear c17); (try clear c18); (try clear c21); (try clear q22); (try clear c23); (try clear c24); (try clear c25); (try clear c30); (try clear p30); (try clear q30); (try clear hx30); (try clear c31); (try clear c35); (try clear c36); (try clear hcz19_0 hcz19_1 hcz19_2 hcz19_3 hfz19_0 hfz19_1 hfz19_2 hfz19_3); (try clear hcz26_0 hcz26_1 hcz26_2 hcz26_3 hfz26_0 hfz26_1 hfz26_2 hfz26_3); (try clear hcz28_0 hcz28_1 hcz28_2 hcz28_3 hfz28_0 hfz28_1 hfz28_2 hfz28_3); (try clear hcz32_0 hcz32_1 hcz32_2 hcz32_3 hfz32_0 hfz32_1 hfz32_2 hfz32_3); (try clear hcz34_0 hcz34_1 hcz34_2 hcz34_3 hfz34_0 hfz34_1 hfz34_2 hfz34_3); (try clear hcz37_0 hcz37_1 hcz37_2 hcz37_3 hfz37_0 hfz37_1 hfz37_2 hfz37_3); (try clear hcz4_0 hcz4_1 hcz4_2 hfz4_0 hfz4_1 hfz4_2); (try clear hcz8_0 hcz8_1 hcz8_2 hfz8_0 hfz8_1 hfz8_2); (try clear hx309_0); (try clear hx309_1); (try clear hx309_2); (try clear hx309_3); (try clear p309); (try clear q309)
       obtain ⟨kq, x43_14, rfl, HA, HJ14, HO_6, HO_7, BK301, BK302, BK310, HB⟩ := hcut
       cases kq with
       | zero => exact absurd HA.out (by simp [spec_CarryRun.j1])
       | succ kj14 =>
        have H := HA.out
        clear HA
        simp only [spec_CarryRun.j1] at H
        by_cases c39 : x43_14 = true
        ·subst c39
         have H1 : (some (([] : List (S46)), 0, 0, 0, wrap64 (x8_1 + 1))) = some (r1, r2, r3, r4, r5) := by rw [if_pos rfl] at H; exact H
         clear H
         have H := H1
         clear H1
         simp only [Option.some.injEq, Prod.mk.injEq] at H
         obtain ⟨rfl, rfl, rfl, rfl, rfl⟩ := H
         have hnb40 := NB301_302.out; have hnc40 := NB302_301.out; have hnb41 := NB301_310.out; have hnc41 := NB310_301.out; obtain ⟨hcz42_0, hcz42_1, hcz42_2, hfz42_0, hfz42_1, hfz42_2⟩ := bz3_ BK301
         go_wp2
         refine bodyPost_ret (results_list (rs := [.tmp 2, .cell 3 46, .tmp 4]) rfl (by simp) (.tmp (.cell gb301 46 #[.int .i64 0, .int .i64 0, .int .i64 0] (0, 0) _ rfl (by (with_reducible repeat (first | refine blk_drewN ?_ _ | refine blk_drew ?_ | refine blk_alloc ?_ _)); refine blk_put (cs := #[.int .i64 0, .int .i64 0, .int .i64 x302002_1]) ?_ 2 _ rfl; (with_reducible repeat (first | refine blk_drewN ?_ _ | refine blk_drew ?_ | refine blk_alloc ?_ _)); refine blk_put (cs := #[.int .i64 0, .int .i64 x302001_1, .int .i64 x302002_1]) ?_ 1 _ rfl; (with_reducible repeat (first | refine blk_drewN ?_ _ | refine blk_drew ?_ | refine blk_alloc ?_ _)); refine blk_put (cs := #[.int .i64 x302000_1, .int .i64 x302001_1, .int .i64 x302002_1]) ?_ 0 _ rfl; exact bk_ BK301) Try.underlying46 rfl (by kernel_rfl) (.tmp .nil)))) rfl ?_
         exact ⟨_, by first | rfl | (simp [errW_none, errW_some] <;> rfl) | (simp [*, errW_none, errW_some] <;> rfl), by first | exact Kd.R_nil _ _ _ _ _ | exact Kd.N_nil _ _ _ _ _ | exact Kd.V_nil _ _ _ _ _ | exact Kd.Q_nil _ _ _ _ _ | exact Kd.S_nil _ _ _ _ _, bf_ HB⟩
        ·replace c39 := Bool.eq_false_iff.mpr c39
         subst c39
         have H1 : (if ((rd_T51 l0 x8_1).f0) = true then (if 0 < (x7_1.length : Int) then ((spec_Settle.f kj14 x303000_1 x303001_1 x303002_1 ((rd_T46 x7_1 0).f0) ((rd_T46 x7_1 0).f1) ((rd_T46 x7_1 0).f2) ((rd_T51 l0 x8_1).f1.f0) ((rd_T51 l0 x8_1).f1.f1) ((rd_T51 l0 x8_1).f1.f2)).bind fun bt313 => ((some (([] : List (S46)) : List (S46))).bind fun y318 => (if 1 ≤ (x7_1.length : Int) then ((some (x7_1.drop 1 : List (S46))).bind fun y321 => (if y318.length + y321.length < 5864062014805 then (spec_CarryRun.l0 kj14 l0 x6_1 (y318 ++ y321) (wrap64 (x8_1 + 1)) bt313.1 bt313.2.1 bt313.2.2.1) else (none))) else (none)))) else (none)) else ((spec_Charge.f kj14 ((rd_T51 l0 x8_1).f1.f0) ((rd_T51 l0 x8_1).f1.f1) ((rd_T51 l0 x8_1).f1.f2) x303000_1 x303001_1 x303002_1).bind fun bt328 => (if x6_1.length < 5864062014805 then (if x7_1.length < 5864062014805 then (spec_CarryRun.l0 kj14 l0 (x6_1 ++ [(⟨bt328.1, bt328.2.1, bt328.2.2.1⟩ : S46)]) (x7_1 ++ [(⟨((rd_T51 l0 x8_1).f1.f0), ((rd_T51 l0 x8_1).f1.f1), ((rd_T51 l0 x8_1).f1.f2)⟩ : S46)]) (wrap64 (x8_1 + 1)) bt328.2.2.2.1 bt328.2.2.2.2.1 bt328.2.2.2.2.2) else (none)) else (none)))) = some (r1, r2, r3, r4, r5) := by rw [if_neg (show ¬ (false = true) by decide)] at H; exact H
         clear H
         have H := H1
         clear H1
         by_cases c43 : ((rd_T51 l0 x8_1).f0) = true
         ·rw [if_pos c43] at H
          have c43b0 : ((rd_T51 l0 x8_1).f0) = true := c43
          clear c43
          by_cases c44 : 0 < (x7_1.length : Int)
          ·rw [if_pos c44] at H
           have c44b0 : decide (0 < (x7_1.length : Int)) = true := decide_eq_true c44
           have c44b1 : decide (0 < x7_1.length) = true := decide_eq_true (by omega)
           clear c44
           replace H := Option.bind_eq_some_iff.mp H
           obtain ⟨⟨t313, t314, t315, t316⟩, A450, H⟩ := H
           replace H : ((some (([] : List (S46)) : List (S46))).bind fun y318 => (if 1 ≤ (x7_1.length : Int) then ((some (x7_1.drop 1 : List (S46))).bind fun y321 => (if y318.length + y321.length < 5864062014805 then (spec_CarryRun.l0 kj14 l0 x6_1 (y318 ++ y321) (wrap64 (x8_1 + 1)) t313 t314 t315) else (none))) else (none))) = some (r1, r2, r3, r4, r5) := H
           have A45 := Aside0.mk A450
           clear A450
           obtain ⟨y318, hy318⟩ : ∃ y_ : List (S46), y_ = (([] : List (S46))) := ⟨_, rfl⟩
           replace H : (if 1 ≤ (x7_1.length : Int) then ((some (x7_1.drop 1 : List (S46))).bind fun y321 => (if y318.length + y321.length < 5864062014805 then (spec_CarryRun.l0 kj14 l0 x6_1 (y318 ++ y321) (wrap64 (x8_1 + 1)) t313 t314 t315) else (none))) else (none)) = some (r1, r2, r3, r4, r5) := by first | (rw [hy318]; with_reducible exact H) | (have H2_ := (Option.bind_some _ _).symm.trans H; rw [hy318]; with_reducible exact H2_) | (have H2_ := (Option.bind_some _ _).symm.trans H; with_reducible exact H2_) | with_reducible exact H | (rw [hy318]; exact H) | exact H
           have Ny318 := Aside0.mk hy318
           clear hy318
           by_cases c46 : 1 ≤ (x7_1.length : Int)
           ·rw [if_pos c46] at H
            have c46b0 := eq_true c46
            have c46b1 : decide (1 ≤ (x7_1.length : Int)) = true := decide_eq_true c46
            clear c46
            obtain ⟨y321, hy321⟩ : ∃ y_ : List (S46), y_ = (x7_1.drop 1) := ⟨_, rfl⟩
            replace H : (if y318.length + y321.length < 5864062014805 then (spec_CarryRun.l0 kj14 l0 x6_1 (y318 ++ y321) (wrap64 (x8_1 + 1)) t313 t314 t315) else (none)) = some (r1, r2, r3, r4, r5) := by first | (rw [hy321]; with_reducible exact H) | (have H2_ := (Option.bind_some _ _).symm.trans H; rw [hy321]; with_reducible exact H2_) | (have H2_ := (Option.bind_some _ _).symm.trans H; with_reducible exact H2_) | with_reducible exact H | (rw [hy321]; exact H) | exact H
            have Ny321 := Aside0.mk hy321
            clear hy321
            by_cases c47 : y318.length + y321.length < 5864062014805
            ·rw [if_pos c47] at H
             have LMc47 := Aside0.mk c47
             clear c47
             obtain ⟨y325, hy325⟩ : ∃ y_ : List (S46), y_ = (y318 ++ y321) := ⟨_, rfl⟩
             replace H : (spec_CarryRun.l0 kj14 l0 x6_1 y325 (wrap64 (x8_1 + 1)) t313 t314 t315) = some (r1, r2, r3, r4, r5) := by first | (rw [hy325]; with_reducible exact H) | (have H2_ := (Option.bind_some _ _).symm.trans H; rw [hy325]; with_reducible exact H2_) | (have H2_ := (Option.bind_some _ _).symm.trans H; with_reducible exact H2_) | with_reducible exact H | (rw [hy325]; exact H) | exact H
             have Ny325 := Aside0.mk hy325
             clear hy325
             have H' := Aside0.mk H
             clear H; have hnb48 := NB310_301.out; have hnc48 := NB301_310.out; have hnb49 := NB310_302.out; have hnc49 := NB302_310.out
             have hcz50_0 : wc.cell? ⟨gb310, 0, none⟩ = some (.bool ((rd_T51 l0 x8_1).f0)) := (blk_cell BK310.out 0).trans rfl
             have hcz50_1 : wc.cell? ⟨gb310, 1, none⟩ = some (.int .i64 ((rd_T51 l0 x8_1).f1.f0)) := (blk_cell BK310.out 1).trans rfl
             have hcz50_2 : wc.cell? ⟨gb310, 2, none⟩ = some (.int .i64 ((rd_T51 l0 x8_1).f1.f1)) := (blk_cell BK310.out 2).trans rfl
             have hcz50_3 : wc.cell? ⟨gb310, 3, none⟩ = some (.int .i64 ((rd_T51 l0 x8_1).f1.f2)) := (blk_cell BK310.out 3).trans rfl
             have hfz50_0 := blk_frozen BK310.out 0; have hfz50_1 := blk_frozen BK310.out 1; have hfz50_2 := blk_frozen BK310.out 2; have hfz50_3 := blk_frozen BK310.out 3
             try go_wp2
             replace HO_6 := Aside0.mk (Kd.R_drew HO_6.out); replace HO_7 := Aside0.mk (Kd.R_drew HO_7.out); replace BK301 := Aside0.mk (blk_drew BK301.out); replace BK302 := Aside0.mk (blk_drew BK302.out); replace BK310 := Aside0.mk (blk_drew BK310.out); replace HB := Aside0.mk (below_drew1 HB.out)
             obtain ⟨Ao52, co52, eo52⟩ := Kd.R_slice HO_7.out
             (first | subst eo52 | (injection eo52 with f1_ f2_ f3_; have f4_ := f1_.symm; have f5_ := f3_.symm; clear f1_ f2_ f3_; subst f4_; subst f5_))
             have p312 : 0 ≤ (0 : Int) := (by omega)
             have q312 : 0 < (x7_1.length : Int) := od_
             obtain ⟨ad312, e312, hx312_0, hx312_1, hx312_2⟩ := at_T46 (Kd.R_reads' HO_7.out).2.2 0 p312 q312
             cases e312
             have qi312 : (0 < x7_1.length) = True := eq_true (by omega)
             (try rw [show ((0 : Int)).toNat = 0 from rfl] at hx312_0)
             (try rw [show 0 * 3 = 0 from rfl] at hx312_0)
             (try rw [Addr.add_zero'] at hx312_0)
             (try rw [show ((0 : Int)).toNat = 0 from rfl] at hx312_1)
             (try rw [show 0 * 3 = 0 from rfl] at hx312_1)
             (try rw [Addr.add_zero'] at hx312_1)
             (try rw [show ((0 : Int)).toNat = 0 from rfl] at hx312_2)
             (try rw [show 0 * 3 = 0 from rfl] at hx312_2)
             (try rw [Addr.add_zero'] at hx312_2)
             replace p312 := eq_true p312
             replace q312 := eq_true q312
             refine start_ (n := 13) (S := fun w' => cw_ w' gb302 0 (.int .i64 x303000_1) ∧ cw_ w' gb302 1 (.int .i64 x303001_1) ∧ cw_ w' gb302 2 (.int .i64 x303002_1) ∧ cw_ w' gb310 0 (.bool ((rd_T51 l0 x8_1).f0)) ∧ cw_ w' gb310 1 (.int .i64 ((rd_T51 l0 x8_1).f1.f0)) ∧ cw_ w' gb310 2 (.int .i64 ((rd_T51 l0 x8_1).f1.f1)) ∧ cw_ w' gb310 3 (.int .i64 ((rd_T51 l0 x8_1).f1.f2)) ∧ w'.cell? ad312 = some (.int .i64 ((rd_T46 x7_1 0).f0)) ∧ w'.cell? ⟨ad312.block, ad312.off + 1, none⟩ = some (.int .i64 ((rd_T46 x7_1 0).f1)) ∧ w'.cell? ⟨ad312.block, ad312.off + 2, none⟩ = some (.int .i64 ((rd_T46 x7_1 0).f2))) (ds := []) (bs 13 0) (by kernel_rfl) rfl rfl ⟨bt_ BK302 0, bt_ BK302 1, bt_ BK302 2, bt_ BK310 0, bt_ BK310 1, bt_ BK310 2, bt_ BK310 3, hx312_0, hx312_1, hx312_2⟩ (fun hHeld => ?_); refine with_tabW spec_CarryRun.tab13 spec_CarryRun.bits13 (fun HT_ HW_ => ?_)
             generalize wc.drew = w51 at HO_6 HO_7 BK301 BK302 BK310 HB hx312_0 hx312_1 hx312_2 hHeld ⊢
             refine ps_ 1 51 (bm 13 2) HT_ ?_
             refine ps_ 2 52 (bm 13 6) HT_ ?_
             refine ps_ 4 54 (bm 13 22) HT_ ?_
             refine tk_ 0 50 (bm 13 23) HT_ HW_ hHeld ?_
             refine tk_ 3 53 (bs 13 5) HT_ HW_ hHeld ?_
             refine tk_ 5 55 (bs 13 6) HT_ HW_ hHeld ?_
             refine join_ (σ := Nat) 2 (bs 13 11) (fun s_ => [(56, .tuple #[.agg #[.int .i64 t313, .int .i64 t314, .int .i64 t315], .bool t316]), (10, .pointer (some ⟨s_, 0, none⟩)), (49, .tuple #[.agg #[.int .i64 t313, .int .i64 t314, .int .i64 t315], .bool t316]), (57, .agg #[.int .i64 t313, .int .i64 t314, .int .i64 t315]), (58, .bool t316)]) (fun s_ w' => (w'.cell? ⟨gb302, 0, none⟩ = some (.int .i64 x303000_1) ∧ w'.cell? ⟨gb302, 1, none⟩ = some (.int .i64 x303001_1) ∧ w'.cell? ⟨gb302, 2, none⟩ = some (.int .i64 x303002_1) ∧ w'.cell? ⟨gb310, 0, none⟩ = some (.bool ((rd_T51 l0 x8_1).f0)) ∧ w'.cell? ⟨gb310, 1, none⟩ = some (.int .i64 ((rd_T51 l0 x8_1).f1.f0)) ∧ w'.cell? ⟨gb310, 2, none⟩ = some (.int .i64 ((rd_T51 l0 x8_1).f1.f1)) ∧ w'.cell? ⟨gb310, 3, none⟩ = some (.int .i64 ((rd_T51 l0 x8_1).f1.f2)) ∧ w'.cell? ad312 = some (.int .i64 ((rd_T46 x7_1 0).f0)) ∧ w'.cell? ⟨ad312.block, ad312.off + 1, none⟩ = some (.int .i64 ((rd_T46 x7_1 0).f1)) ∧ w'.cell? ⟨ad312.block, ad312.off + 2, none⟩ = some (.int .i64 ((rd_T46 x7_1 0).f2))) ∧ (Kd.R k46 46 w' w.heap.size (fun k_ => some k_ ≠ (.slice (some ad312) x7_1.length co52 : Value).ownBlock ∧ k_ ≠ gb301 ∧ k_ ≠ gb302 ∧ k_ ≠ s_) u6 x6_1) ∧ (Kd.R k46 46 w' w.heap.size (fun k_ => some k_ ≠ (u6 : Value).ownBlock ∧ k_ ≠ gb301 ∧ k_ ≠ gb302 ∧ k_ ≠ s_) (.slice (some ad312) x7_1.length co52) x7_1) ∧ (w'.heap[gb301]? = some (.cells #[.int .i64 x302000_1, .int .i64 x302001_1, .int .i64 x302002_1] 46 (0, 0))) ∧ (w'.heap[gb302]? = some (.cells #[.int .i64 x303000_1, .int .i64 x303001_1, .int .i64 x303002_1] 46 (0, 0))) ∧ (w'.heap[gb310]? = some (.cells #[.bool ((rd_T51 l0 x8_1).f0), .int .i64 ((rd_T51 l0 x8_1).f1.f0), .int .i64 ((rd_T51 l0 x8_1).f1.f1), .int .i64 ((rd_T51 l0 x8_1).f1.f2)] 51 (0, 0))) ∧ (w'.heap[s_]? = some (.cells #[.int .i64 0, .int .i64 0, .int .i64 0] 46 (0, 0))) ∧ (w.heap.size ≤ s_) ∧ (w.heap.size ≤ s_) ∧ (gb301 ≠ s_) ∧ (s_ ≠ gb301) ∧ (gb302 ≠ s_) ∧ (s_ ≠ gb302) ∧ (gb310 ≠ s_) ∧ (s_ ≠ gb310) ∧ (Below w.heap.size w w')) ?_ ?_
             rotate_left
             ·intro hCont
              refine two_ (i := 6) (j := 10) (Ni := some 56) (Nj := some 10) (bs 13 7) (bm 13 1087) rfl rfl rfl rfl (two_of HT_.out (by kernel_rfl)) (by decide) (by decide) (fun K hK => ?_) (fun K hK => ?_)
              ·skip
               refine gs_ Try.func62 #[.agg #[.int .i64 x303000_1, .int .i64 x303001_1, .int .i64 x303002_1], .agg #[.int .i64 ((rd_T46 x7_1 0).f0), .int .i64 ((rd_T46 x7_1 0).f1), .int .i64 ((rd_T46 x7_1 0).f2)], .agg #[.int .i64 ((rd_T51 l0 x8_1).f1.f0), .int .i64 ((rd_T51 l0 x8_1).f1.f1), .int .i64 ((rd_T51 l0 x8_1).f1.f2)]] ?_
               with_reducible refine (spec_Settle.calls kj14 x303000_1 x303001_1 x303002_1 ((rd_T46 x7_1 0).f0) ((rd_T46 x7_1 0).f1) ((rd_T46 x7_1 0).f2) ((rd_T51 l0 x8_1).f1.f0) ((rd_T51 l0 x8_1).f1.f1) ((rd_T51 l0 x8_1).f1.f2) t313 t314 t315 t316 _ A45.out).mono ?_
               rintro e w53 ⟨rfl, hb⟩
               have HS7_ := hc_ hb hHeld.2.2.2.2.2.2.2.1
               have HS8_ := hc_ hb hHeld.2.2.2.2.2.2.2.2.1
               have HS9_ := hc_ hb hHeld.2.2.2.2.2.2.2.2.2
               refine ⟨_, rfl, ?_⟩
               replace HO_6 := Aside0.mk (Kd.R_below (kr_ HO_6) hb); replace HO_7 := Aside0.mk (Kd.R_below (kr_ HO_7) hb); replace BK301 := bb_ BK301 hb; replace BK302 := bb_ BK302 hb; replace BK310 := bb_ BK310 hb; replace HB := Aside0.mk (below_step (bf_ HB) hb); (try clear hb); (try clear hb2); (try clear hk); (try clear hi)
               refine hK.out _ _ ⟨bt_ BK302 0, bt_ BK302 1, bt_ BK302 2, bt_ BK310 0, bt_ BK310 1, bt_ BK310 2, bt_ BK310 3, HS7_, HS8_, HS9_⟩ (fun hHeld => ?_)
               clear hK K
               refine norm_ (a' := ?_) ?_ ?_
               rotate_left
               ·show Act.put _ (some 56) _ = _
                simp only [Act.put, ls0_, ls1_, ls2_, i64_w, i32_w]
                rfl
               refine ps_ 7 49 (bs 13 8) HT_ ?_
               refine ps_ 8 57 (bs 13 9) HT_ ?_
               refine ps_ 9 58 (bs 13 10) HT_ ?_
               refine on_ 10 (some 10) (bs 13 11) HT_ (fun K hK => ?_)
               refine box_step ?hg (N := 10) ?hd (cs := #[.int .i64 0, .int .i64 0, .int .i64 0]) (t := 46) ?hr ?_; (case hd => rfl); (case hg => rfl); (case hr => first | (go_simp; done) | (go_simp; rfl))
               intro gb317 hg w54 hbox hb
               have HS7_ := hc_ hb hHeld.2.2.2.2.2.2.2.1
               have HS8_ := hc_ hb hHeld.2.2.2.2.2.2.2.2.1
               have HS9_ := hc_ hb hHeld.2.2.2.2.2.2.2.2.2
               replace HO_6 := Aside0.mk (Kd.R_below (Kd.R_elderB (kr_ HO_6) gb317 (Nat.le_of_eq hg.symm)) hb); replace HO_7 := Aside0.mk (Kd.R_below (Kd.R_elderB (kr_ HO_7) gb317 (Nat.le_of_eq hg.symm)) hb); have BK317 := Aside0.mk (hbox); have GW317 := gw_ HB hg; have GE317 := gw_ HB hg; replace HB := Aside0.mk (below_step (bf_ HB) hb); have NB301_317 := nl_ BK301 hg; have NB317_301 := ng_ BK301 hg; replace BK301 := bb_ BK301 hb; have NB302_317 := nl_ BK302 hg; have NB317_302 := ng_ BK302 hg; replace BK302 := bb_ BK302 hb; have NB310_317 := nl_ BK310 hg; have NB317_310 := ng_ BK310 hg; replace BK310 := bb_ BK310 hb; clear hb hbox hg
               refine hK.out _ _ ⟨bt_ BK302 0, bt_ BK302 1, bt_ BK302 2, bt_ BK310 0, bt_ BK310 1, bt_ BK310 2, bt_ BK310 3, HS7_, HS8_, HS9_⟩ (fun hHeld => ?_)
               clear hK K
               refine norm_ (a' := ?_) ?_ ?_
               rotate_left
               ·show Act.put _ (some 10) _ = _
                simp only [Act.put, ls0_, ls1_, ls2_, i64_w, i32_w]
                rfl
               exact norm_ (by simp only [putAll, Act.put, ls0_, ls1_, ls2_]) (hCont (gb317) _ ⟨hHeld, (by (with_reducible repeat (first | apply Kd.R_alloc | apply Kd.R_drewN | apply Kd.R_drew)); exact Kd.R_mono HO_6.out (fun _ hk => by first | exact ⟨hk.1.1, ⟨hk.1.2.1, ⟨hk.1.2.2, hk.2⟩⟩⟩ | grind)), (by (with_reducible repeat (first | apply Kd.R_alloc | apply Kd.R_drewN | apply Kd.R_drew)); exact Kd.R_mono HO_7.out (fun _ hk => by first | exact ⟨hk.1.1, ⟨hk.1.2.1, ⟨hk.1.2.2, hk.2⟩⟩⟩ | grind)), (bk_ BK301), (bk_ BK302), (bk_ BK310), (bk_ BK317), GW317.out, GE317.out, NB301_317.out, NB317_301.out, NB302_317.out, NB317_302.out, NB310_317.out, NB317_310.out, (bf_ HB)⟩)
              ·skip
               refine box_step ?hg (N := 10) ?hd (cs := #[.int .i64 0, .int .i64 0, .int .i64 0]) (t := 46) ?hr ?_; (case hd => rfl); (case hg => rfl); (case hr => first | (go_simp; done) | (go_simp; rfl))
               intro gb317 hg w53 hbox hb
               have HS7_ := hc_ hb hHeld.2.2.2.2.2.2.2.1
               have HS8_ := hc_ hb hHeld.2.2.2.2.2.2.2.2.1
               have HS9_ := hc_ hb hHeld.2.2.2.2.2.2.2.2.2
               replace HO_6 := Aside0.mk (Kd.R_below (Kd.R_elderB (kr_ HO_6) gb317 (Nat.le_of_eq hg.symm)) hb); replace HO_7 := Aside0.mk (Kd.R_below (Kd.R_elderB (kr_ HO_7) gb317 (Nat.le_of_eq hg.symm)) hb); have BK317 := Aside0.mk (hbox); have GW317 := gw_ HB hg; have GE317 := gw_ HB hg; replace HB := Aside0.mk (below_step (bf_ HB) hb); have NB301_317 := nl_ BK301 hg; have NB317_301 := ng_ BK301 hg; replace BK301 := bb_ BK301 hb; have NB302_317 := nl_ BK302 hg; have NB317_302 := ng_ BK302 hg; replace BK302 := bb_ BK302 hb; have NB310_317 := nl_ BK310 hg; have NB317_310 := ng_ BK310 hg; replace BK310 := bb_ BK310 hb; clear hb hbox hg
               refine hK.out _ _ ⟨bt_ BK302 0, bt_ BK302 1, bt_ BK302 2, bt_ BK310 0, bt_ BK310 1, bt_ BK310 2, bt_ BK310 3, HS7_, HS8_, HS9_⟩ (fun hHeld => ?_)
               clear hK K
               refine norm_ (a' := ?_) ?_ ?_
               rotate_left
               ·show Act.put _ (some 10) _ = _
                simp only [Act.put, ls0_, ls1_, ls2_, i64_w, i32_w]
                rfl
               refine on_ 6 (some 56) (bm 13 1151) HT_ (fun K hK => ?_)
               refine gs_ Try.func62 #[.agg #[.int .i64 x303000_1, .int .i64 x303001_1, .int .i64 x303002_1], .agg #[.int .i64 ((rd_T46 x7_1 0).f0), .int .i64 ((rd_T46 x7_1 0).f1), .int .i64 ((rd_T46 x7_1 0).f2)], .agg #[.int .i64 ((rd_T51 l0 x8_1).f1.f0), .int .i64 ((rd_T51 l0 x8_1).f1.f1), .int .i64 ((rd_T51 l0 x8_1).f1.f2)]] ?_
               with_reducible refine (spec_Settle.calls kj14 x303000_1 x303001_1 x303002_1 ((rd_T46 x7_1 0).f0) ((rd_T46 x7_1 0).f1) ((rd_T46 x7_1 0).f2) ((rd_T51 l0 x8_1).f1.f0) ((rd_T51 l0 x8_1).f1.f1) ((rd_T51 l0 x8_1).f1.f2) t313 t314 t315 t316 _ A45.out).mono ?_
               rintro e w54 ⟨rfl, hb⟩
               have HS7_ := hc_ hb hHeld.2.2.2.2.2.2.2.1
               have HS8_ := hc_ hb hHeld.2.2.2.2.2.2.2.2.1
               have HS9_ := hc_ hb hHeld.2.2.2.2.2.2.2.2.2
               refine ⟨_, rfl, ?_⟩
               replace HO_6 := Aside0.mk (Kd.R_below (kr_ HO_6) hb); replace HO_7 := Aside0.mk (Kd.R_below (kr_ HO_7) hb); replace BK301 := bb_ BK301 hb; replace BK302 := bb_ BK302 hb; replace BK310 := bb_ BK310 hb; replace BK317 := bb_ BK317 hb; replace HB := Aside0.mk (below_step (bf_ HB) hb); (try clear hb); (try clear hb2); (try clear hk); (try clear hi)
               refine hK.out _ _ ⟨bt_ BK302 0, bt_ BK302 1, bt_ BK302 2, bt_ BK310 0, bt_ BK310 1, bt_ BK310 2, bt_ BK310 3, HS7_, HS8_, HS9_⟩ (fun hHeld => ?_)
               clear hK K
               refine norm_ (a' := ?_) ?_ ?_
               rotate_left
               ·show Act.put _ (some 56) _ = _
                simp only [Act.put, ls0_, ls1_, ls2_, i64_w, i32_w]
                rfl
               refine ps_ 7 49 (bm 13 1279) HT_ ?_
               refine ps_ 8 57 (bm 13 1535) HT_ ?_
               refine ps_ 9 58 (bs 13 11) HT_ ?_
               exact norm_ (by simp only [putAll, Act.put, ls0_, ls1_, ls2_]) (hCont (gb317) _ ⟨hHeld, (by (with_reducible repeat (first | apply Kd.R_alloc | apply Kd.R_drewN | apply Kd.R_drew)); exact Kd.R_mono HO_6.out (fun _ hk => by first | exact ⟨hk.1.1, ⟨hk.1.2.1, ⟨hk.1.2.2, hk.2⟩⟩⟩ | grind)), (by (with_reducible repeat (first | apply Kd.R_alloc | apply Kd.R_drewN | apply Kd.R_drew)); exact Kd.R_mono HO_7.out (fun _ hk => by first | exact ⟨hk.1.1, ⟨hk.1.2.1, ⟨hk.1.2.2, hk.2⟩⟩⟩ | grind)), (bk_ BK301), (bk_ BK302), (bk_ BK310), (bk_ BK317), GW317.out, GE317.out, NB301_317.out, NB317_301.out, NB302_317.out, NB317_302.out, NB310_317.out, NB317_310.out, (bf_ HB)⟩)
             rintro gb317 w55 ⟨hS_, h0_, h1_, h2_, h3_, h4_, h5_, h6_, h7_, h8_, h9_, h10_, h11_, h12_, h13_, h14_⟩
             have n0_ : Aside0 (Kd.R k46 46 w55 w.heap.size (fun k_ => some k_ ≠ (.slice (some ad312) x7_1.length co52 : Value).ownBlock ∧ k_ ≠ gb301 ∧ k_ ≠ gb302 ∧ k_ ≠ gb317) u6 x6_1) := ⟨h0_⟩
             have n1_ : Aside0 (Kd.R k46 46 w55 w.heap.size (fun k_ => some k_ ≠ (u6 : Value).ownBlock ∧ k_ ≠ gb301 ∧ k_ ≠ gb302 ∧ k_ ≠ gb317) (.slice (some ad312) x7_1.length co52) x7_1) := ⟨h1_⟩
             have n2_ : Aside0 (w55.heap[gb301]? = some (.cells #[.int .i64 x302000_1, .int .i64 x302001_1, .int .i64 x302002_1] 46 (0, 0))) := ⟨h2_⟩
             have n3_ : Aside0 (w55.heap[gb302]? = some (.cells #[.int .i64 x303000_1, .int .i64 x303001_1, .int .i64 x303002_1] 46 (0, 0))) := ⟨h3_⟩
             have n4_ : Aside0 (w55.heap[gb310]? = some (.cells #[.bool ((rd_T51 l0 x8_1).f0), .int .i64 ((rd_T51 l0 x8_1).f1.f0), .int .i64 ((rd_T51 l0 x8_1).f1.f1), .int .i64 ((rd_T51 l0 x8_1).f1.f2)] 51 (0, 0))) := ⟨h4_⟩
             have n5_ : Aside0 (w55.heap[gb317]? = some (.cells #[.int .i64 0, .int .i64 0, .int .i64 0] 46 (0, 0))) := ⟨h5_⟩
             have n6_ : Aside0 (w.heap.size ≤ gb317) := ⟨h6_⟩
             have n7_ : Aside0 (w.heap.size ≤ gb317) := ⟨h7_⟩
             have n8_ : Aside0 (gb301 ≠ gb317) := ⟨h8_⟩
             have n9_ : Aside0 (gb317 ≠ gb301) := ⟨h9_⟩
             have n10_ : Aside0 (gb302 ≠ gb317) := ⟨h10_⟩
             have n11_ : Aside0 (gb317 ≠ gb302) := ⟨h11_⟩
             have n12_ : Aside0 (gb310 ≠ gb317) := ⟨h12_⟩
             have n13_ : Aside0 (gb317 ≠ gb310) := ⟨h13_⟩
             have n14_ : Aside0 (Below w.heap.size w w55) := ⟨h14_⟩
             clear HO_6 HO_7 BK301 BK302 BK310 HB h0_ h1_ h2_ h3_ h4_ h5_ h6_ h7_ h8_ h9_ h10_ h11_ h12_ h13_ h14_; have HO_6 := n0_; have HO_7 := n1_; have BK301 := n2_; have BK302 := n3_; have BK310 := n4_; have BK317 := n5_; have GW317 := n6_; have GE317 := n7_; have NB301_317 := n8_; have NB317_301 := n9_; have NB302_317 := n10_; have NB317_302 := n11_; have NB310_317 := n12_; have NB317_310 := n13_; have HB := n14_; clear n0_ n1_ n2_ n3_ n4_ n5_ n6_ n7_ n8_ n9_ n10_ n11_ n12_ n13_ n14_
             have hHeld : w55.cell? ⟨gb302, 0, none⟩ = some (.int .i64 x303000_1) ∧ w55.cell? ⟨gb302, 1, none⟩ = some (.int .i64 x303001_1) ∧ w55.cell? ⟨gb302, 2, none⟩ = some (.int .i64 x303002_1) ∧ w55.cell? ⟨gb310, 0, none⟩ = some (.bool ((rd_T51 l0 x8_1).f0)) ∧ w55.cell? ⟨gb310, 1, none⟩ = some (.int .i64 ((rd_T51 l0 x8_1).f1.f0)) ∧ w55.cell? ⟨gb310, 2, none⟩ = some (.int .i64 ((rd_T51 l0 x8_1).f1.f1)) ∧ w55.cell? ⟨gb310, 3, none⟩ = some (.int .i64 ((rd_T51 l0 x8_1).f1.f2)) ∧ w55.cell? ad312 = some (.int .i64 ((rd_T46 x7_1 0).f0)) ∧ w55.cell? ⟨ad312.block, ad312.off + 1, none⟩ = some (.int .i64 ((rd_T46 x7_1 0).f1)) ∧ w55.cell? ⟨ad312.block, ad312.off + 2, none⟩ = some (.int .i64 ((rd_T46 x7_1 0).f2)) := hS_
             refine norm_ (a' := ?_) ?_ ?_
             rotate_left
             ·simp only [putAll, Act.put, ls0_, ls1_, ls2_]
              rfl
             refine on_ 11 none (bs 13 12) HT_ (fun K hK => ?_)
             have hs56 := bc_ BK317 0 (.int .i64 0) rfl; have hfs56 := blk_frozen BK317.out 0; have hns56_0 := NB301_317.out; have hns56_1 := NB302_317.out; have hns56_2 := NB310_317.out; have hms56_0 := NB317_301.out; have hms56_1 := NB317_302.out; have hms56_2 := NB317_310.out; have hs57 := bc_ BK317 1 (.int .i64 0) rfl; have hfs57 := blk_frozen BK317.out 1; have hns57_0 := NB301_317.out; have hns57_1 := NB302_317.out; have hns57_2 := NB310_317.out; have hms57_0 := NB317_301.out; have hms57_1 := NB317_302.out; have hms57_2 := NB317_310.out; have hs58 := bc_ BK317 2 (.int .i64 0) rfl; have hfs58 := blk_frozen BK317.out 2; have hns58_0 := NB301_317.out; have hns58_1 := NB302_317.out; have hns58_2 := NB310_317.out; have hms58_0 := NB317_301.out; have hms58_1 := NB317_302.out; have hms58_2 := NB317_310.out
             refine skip_ (w1 := ?_) (by rfl) rfl ?_ ?_
             rotate_left
             ·go_simp
              rfl
             refine hK.out _ _ ⟨(cf3_ NB302_317.out hHeld.1), (cf3_ NB302_317.out hHeld.2.1), (cf3_ NB302_317.out hHeld.2.2.1), (cf3_ NB310_317.out hHeld.2.2.2.1), (cf3_ NB310_317.out hHeld.2.2.2.2.1), (cf3_ NB310_317.out hHeld.2.2.2.2.2.1), (cf3_ NB310_317.out hHeld.2.2.2.2.2.2.1), (cf3_ (by first | exact Kd.own_blk (Kd.R_away HO_7.out (fun _ hk => by first | exact hk.2.2.2 | grind)) | (rw [add_block]; exact Kd.own_blk (Kd.R_away HO_7.out (fun _ hk => by first | exact hk.2.2.2 | grind))) | (show (Addr.add _ _).block ≠ _; rw [add_block]; exact Kd.own_blk (Kd.R_away HO_7.out (fun _ hk => by first | exact hk.2.2.2 | grind))) | (dsimp only; exact Kd.own_blk (Kd.R_away HO_7.out (fun _ hk => by first | exact hk.2.2.2 | grind)))) hHeld.2.2.2.2.2.2.2.1), (cf3_ (by first | exact Kd.own_blk (Kd.R_away HO_7.out (fun _ hk => by first | exact hk.2.2.2 | grind)) | (rw [add_block]; exact Kd.own_blk (Kd.R_away HO_7.out (fun _ hk => by first | exact hk.2.2.2 | grind))) | (show (Addr.add _ _).block ≠ _; rw [add_block]; exact Kd.own_blk (Kd.R_away HO_7.out (fun _ hk => by first | exact hk.2.2.2 | grind))) | (dsimp only; exact Kd.own_blk (Kd.R_away HO_7.out (fun _ hk => by first | exact hk.2.2.2 | grind)))) hHeld.2.2.2.2.2.2.2.2.1), (cf3_ (by first | exact Kd.own_blk (Kd.R_away HO_7.out (fun _ hk => by first | exact hk.2.2.2 | grind)) | (rw [add_block]; exact Kd.own_blk (Kd.R_away HO_7.out (fun _ hk => by first | exact hk.2.2.2 | grind))) | (show (Addr.add _ _).block ≠ _; rw [add_block]; exact Kd.own_blk (Kd.R_away HO_7.out (fun _ hk => by first | exact hk.2.2.2 | grind))) | (dsimp only; exact Kd.own_blk (Kd.R_away HO_7.out (fun _ hk => by first | exact hk.2.2.2 | grind)))) hHeld.2.2.2.2.2.2.2.2.2)⟩ (fun hHeld => ?_)
             clear hK K
             refine ps_ 12 11 (bs 13 13) HT_ ?_
             refine done_ (done_of HT_.out (by kernel_rfl)) ?_
             have hnb59 := NB317_301.out; have hnc59 := NB301_317.out; have hnb60 := NB317_302.out; have hnc60 := NB302_317.out; have hnb61 := NB317_310.out; have hnc61 := NB310_317.out; obtain ⟨hcz62_0, hcz62_1, hcz62_2, hfz62_0, hfz62_1, hfz62_2⟩ := bz3_ BK317; have hnb63 := NB302_301.out; have hnc63 := NB301_302.out; obtain ⟨hcz64_0, hcz64_1, hcz64_2, hfz64_0, hfz64_1, hfz64_2⟩ := bz3_ BK302
             try go_wp2_with (first | ((with_reducible refine gd_ 60 rfl ?_); (try (refine gate_guard (by rfl) ?_; dsimp only)); refine Kd.R_lit k46 _ 46 ?hg (N := 60) ?hd (xs := ([] : List (S46))) (inner := []) (ok := fun _ => True) (okp := fun _ => True) ?hr ?hp (fun _ hk => by first | exact hk | grind) trivial (Below.refl _ _) (Nat.le_refl _) (by simp) ?_; (case hd => rfl); (case hg => rfl); (case hr => first | (go_simp; done) | (go_simp; rfl)); (case hp => exact (Reps.none _ _)); intro v319 w65 ho66 hb hg_ hnew_; clear hg_ hnew_; (first | rw [← Ny318.out] at ho66 | (simp only [Int.reduceToNat] at ho66; rw [← Ny318.out] at ho66)); have hp0_ := (Kd.R_mono (Kd.R_mono (Kd.R_far (p := ⟨gb302, 2, none⟩) (Kd.R_far (p := ⟨gb302, 1, none⟩) (Kd.R_far (p := ⟨gb302, 0, none⟩) (Kd.R_far (p := ⟨gb317, 2, none⟩) (Kd.R_far (p := ⟨gb317, 1, none⟩) (Kd.R_far (p := ⟨gb317, 0, none⟩) (Kd.R_mono (Kd.R_mono HO_6.out (fun k_ hk => (⟨hk, hk.2.2.2⟩ : _ ∧ k_ ≠ gb317))) (fun k_ hk => (⟨hk, hk.1.2.2.1⟩ : _ ∧ k_ ≠ gb302))) (fun _ hk => hk.1.2) (.int .i64 t313)) (fun _ hk => hk.1.2) (.int .i64 t314)) (fun _ hk => hk.1.2) (.int .i64 t315)) (fun _ hk => hk.2) (.int .i64 t313)) (fun _ hk => hk.2) (.int .i64 t314)) (fun _ hk => hk.2) (.int .i64 t315)) (fun _ h_ => h_.1)) (fun _ h_ => h_.1)); have hp1_ := (Kd.R_mono (Kd.R_mono (Kd.R_far (p := ⟨gb302, 2, none⟩) (Kd.R_far (p := ⟨gb302, 1, none⟩) (Kd.R_far (p := ⟨gb302, 0, none⟩) (Kd.R_far (p := ⟨gb317, 2, none⟩) (Kd.R_far (p := ⟨gb317, 1, none⟩) (Kd.R_far (p := ⟨gb317, 0, none⟩) (Kd.R_mono (Kd.R_mono HO_7.out (fun k_ hk => (⟨hk, hk.2.2.2⟩ : _ ∧ k_ ≠ gb317))) (fun k_ hk => (⟨hk, hk.1.2.2.1⟩ : _ ∧ k_ ≠ gb302))) (fun _ hk => hk.1.2) (.int .i64 t313)) (fun _ hk => hk.1.2) (.int .i64 t314)) (fun _ hk => hk.1.2) (.int .i64 t315)) (fun _ hk => hk.2) (.int .i64 t313)) (fun _ hk => hk.2) (.int .i64 t314)) (fun _ hk => hk.2) (.int .i64 t315)) (fun _ h_ => h_.1)) (fun _ h_ => h_.1)); have HO320 := Aside0.mk (Kd.R_lower (Kd.R_newB (Kd.R_newB (Kd.R_newB (Kd.R_new' (Kd.R_new' ho66 (Kd.R_lt hp0_)) (Kd.R_lt hp1_)) (g := gb301) (o := .cells #[.int .i64 x302000_1, .int .i64 x302001_1, .int .i64 x302002_1] 46 (0, 0)) (bl_ BK301)) (g := gb302) (o := .cells #[.int .i64 t313, .int .i64 t314, .int .i64 t315] 46 (0, 0)) (by (with_reducible repeat (first | refine blk_drewN ?_ _ | refine blk_drew ?_ | refine blk_alloc ?_ _)); refine blk_put (cs := #[.int .i64 t313, .int .i64 t314, .int .i64 x303002_1]) ?_ 2 _ rfl; (with_reducible repeat (first | refine blk_drewN ?_ _ | refine blk_drew ?_ | refine blk_alloc ?_ _)); refine blk_put (cs := #[.int .i64 t313, .int .i64 x303001_1, .int .i64 x303002_1]) ?_ 1 _ rfl; (with_reducible repeat (first | refine blk_drewN ?_ _ | refine blk_drew ?_ | refine blk_alloc ?_ _)); refine blk_put (cs := #[.int .i64 x303000_1, .int .i64 x303001_1, .int .i64 x303002_1]) ?_ 0 _ rfl; (with_reducible repeat (first | refine blk_drewN ?_ _ | refine blk_drew ?_ | refine blk_alloc ?_ _)); refine blk_far ?_ NB302_317.out _; (with_reducible repeat (first | refine blk_drewN ?_ _ | refine blk_drew ?_ | refine blk_alloc ?_ _)); refine blk_far ?_ NB302_317.out _; (with_reducible repeat (first | refine blk_drewN ?_ _ | refine blk_drew ?_ | refine blk_alloc ?_ _)); refine blk_far ?_ NB302_317.out _; exact bk_ BK302)) (g := gb317) (o := .cells #[.int .i64 t313, .int .i64 t314, .int .i64 t315] 46 (0, 0)) (by (with_reducible repeat (first | refine blk_drewN ?_ _ | refine blk_drew ?_ | refine blk_alloc ?_ _)); refine blk_far ?_ NB317_302.out _; (with_reducible repeat (first | refine blk_drewN ?_ _ | refine blk_drew ?_ | refine blk_alloc ?_ _)); refine blk_far ?_ NB317_302.out _; (with_reducible repeat (first | refine blk_drewN ?_ _ | refine blk_drew ?_ | refine blk_alloc ?_ _)); refine blk_far ?_ NB317_302.out _; (with_reducible repeat (first | refine blk_drewN ?_ _ | refine blk_drew ?_ | refine blk_alloc ?_ _)); refine blk_put (cs := #[.int .i64 t313, .int .i64 t314, .int .i64 0]) ?_ 2 _ rfl; (with_reducible repeat (first | refine blk_drewN ?_ _ | refine blk_drew ?_ | refine blk_alloc ?_ _)); refine blk_put (cs := #[.int .i64 t313, .int .i64 0, .int .i64 0]) ?_ 1 _ rfl; (with_reducible repeat (first | refine blk_drewN ?_ _ | refine blk_drew ?_ | refine blk_alloc ?_ _)); refine blk_put (cs := #[.int .i64 0, .int .i64 0, .int .i64 0]) ?_ 0 _ rfl; exact bk_ BK317)) (below_size (bf_ HB))); replace HO_6 := Aside0.mk (Kd.R_elder' hp0_ (Kd.R_base ho66) hb); replace HO_7 := Aside0.mk (Kd.R_elder' hp1_ (Kd.R_base ho66) hb); replace BK301 := bm_ BK301 hb; replace BK302 := Aside0.mk (blk_below (g := gb302) (o := .cells #[.int .i64 t313, .int .i64 t314, .int .i64 t315] 46 (0, 0)) (by (with_reducible repeat (first | refine blk_drewN ?_ _ | refine blk_drew ?_ | refine blk_alloc ?_ _)); refine blk_put (cs := #[.int .i64 t313, .int .i64 t314, .int .i64 x303002_1]) ?_ 2 _ rfl; (with_reducible repeat (first | refine blk_drewN ?_ _ | refine blk_drew ?_ | refine blk_alloc ?_ _)); refine blk_put (cs := #[.int .i64 t313, .int .i64 x303001_1, .int .i64 x303002_1]) ?_ 1 _ rfl; (with_reducible repeat (first | refine blk_drewN ?_ _ | refine blk_drew ?_ | refine blk_alloc ?_ _)); refine blk_put (cs := #[.int .i64 x303000_1, .int .i64 x303001_1, .int .i64 x303002_1]) ?_ 0 _ rfl; (with_reducible repeat (first | refine blk_drewN ?_ _ | refine blk_drew ?_ | refine blk_alloc ?_ _)); refine blk_far ?_ NB302_317.out _; (with_reducible repeat (first | refine blk_drewN ?_ _ | refine blk_drew ?_ | refine blk_alloc ?_ _)); refine blk_far ?_ NB302_317.out _; (with_reducible repeat (first | refine blk_drewN ?_ _ | refine blk_drew ?_ | refine blk_alloc ?_ _)); refine blk_far ?_ NB302_317.out _; exact bk_ BK302) hb); replace BK310 := bm_ BK310 hb; replace BK317 := Aside0.mk (blk_below (g := gb317) (o := .cells #[.int .i64 t313, .int .i64 t314, .int .i64 t315] 46 (0, 0)) (by (with_reducible repeat (first | refine blk_drewN ?_ _ | refine blk_drew ?_ | refine blk_alloc ?_ _)); refine blk_far ?_ NB317_302.out _; (with_reducible repeat (first | refine blk_drewN ?_ _ | refine blk_drew ?_ | refine blk_alloc ?_ _)); refine blk_far ?_ NB317_302.out _; (with_reducible repeat (first | refine blk_drewN ?_ _ | refine blk_drew ?_ | refine blk_alloc ?_ _)); refine blk_far ?_ NB317_302.out _; (with_reducible repeat (first | refine blk_drewN ?_ _ | refine blk_drew ?_ | refine blk_alloc ?_ _)); refine blk_put (cs := #[.int .i64 t313, .int .i64 t314, .int .i64 0]) ?_ 2 _ rfl; (with_reducible repeat (first | refine blk_drewN ?_ _ | refine blk_drew ?_ | refine blk_alloc ?_ _)); refine blk_put (cs := #[.int .i64 t313, .int .i64 0, .int .i64 0]) ?_ 1 _ rfl; (with_reducible repeat (first | refine blk_drewN ?_ _ | refine blk_drew ?_ | refine blk_alloc ?_ _)); refine blk_put (cs := #[.int .i64 0, .int .i64 0, .int .i64 0]) ?_ 0 _ rfl; exact bk_ BK317) hb); replace HB := Aside0.mk (below_step (bf_ HB) hb); clear hb ho66; have q67 : (1 : Int) ≤ ((x7_1.length : Int) : Int) := od_; obtain ⟨i067, hi067, _, hsz67, _⟩ := info_parts info46; have hroom67 : x7_1.length ≤ co52 := (Kd.R_reads' HO_7.out).2.1; have hC67 : Kd.C k46 _ (some ad312) x7_1.length x7_1 := (Kd.R_reads' HO_7.out).2.2; have hcut67 := cut_from (P := Try.prog) 44 46 .i64 Try.underlying44 hi067 3 hsz67 (some ad312) x7_1.length co52 1 (by omega) q67; have hr67 := Kd.C_drop (m := (1 : Int).toNat) (c := co52) hC67 (by omega) hroom67; obtain ⟨A67, hA67⟩ : ∃ A1, A1 = (if co52 = (1 : Int).toNat then (some ad312) else ((some ad312) : Option Addr).map (·.add ((1 : Int).toNat * 3))) := ⟨_, rfl⟩; obtain ⟨c67, hc67⟩ : ∃ c1, c1 = co52 - (1 : Int).toNat := ⟨_, rfl⟩; have hy67 : y321.length = x7_1.length - (1 : Int).toNat := (by rw [Ny321.out, List.length_drop] <;> omega); rw [show (x7_1).drop (1 : Int).toNat = y321 from Ny321.out.symm] at hr67; replace hr67 : Kd.C k46 _ A67 y321.length y321 := (by rw [hA67]; exact hr67); rw [← hy67, ← hA67, ← hc67] at hcut67; have HR324 := Aside0.mk hr67; have HC324 := Aside0.mk (show y321.length ≤ c67 from by rw [hy67, hc67]; exact Nat.sub_le_sub_right hroom67 _); clear hr67 hC67 hroom67 hi067 hsz67 hc67; have KY67 := Aside0.mk hy67; have KA67 := Aside0.mk hA67; clear hy67 hA67; have KL67 := Aside0.mk (show 1 ≤ x7_1.length from by omega); replace q67 := eq_true q67; clear hp0_ hp1_) | ((with_reducible refine gate_builtin (b := .append) (xs := #[.tmp 60, .tmp 62]) rfl ?_); (try (refine gate_guard (by rfl) ?_; dsimp only)); at_builtin; refine Kd.R_append_rows k46 (w0 := w) w.heap.size rfl (.tmp 60) (.tmp 62) 44 46 (.agg #[(.int .i64 0), (.int .i64 0), (.int .i64 0)]) 24 rfl Try.underlying44 info46 rfl (by decide) (by omega) v319 y318 y321 _ _ _ (fun k_ => some k_ ≠ (u6 : Value).ownBlock ∧ some k_ ≠ (.slice (some ad312) x7_1.length co52 : Value).ownBlock ∧ k_ ≠ gb301 ∧ k_ ≠ gb302 ∧ k_ ≠ gb317) (fun _ => False) rfl rfl ?aO ?aR (fun _ _ h => h) (fun _ h => h.elim) ?aF ?aB ?aS ?aL ?_; (case aR => repeat (first | exact (by repeat (first | (with_reducible exact HR324.out) | (with_reducible refine Kd.C_alloc ?_ _) | (with_reducible refine Kd.C_drewN ?_ _) | (with_reducible refine Kd.C_drew ?_) | exact HR324.out)) | (with_reducible refine Kd.C_alloc ?_ _) | (with_reducible refine Kd.C_drewN ?_ _) | (with_reducible refine Kd.C_drew ?_))); (case aB => exact (bf_ HB)); (case aF => exact (fun k_ hk => by first | exact ⟨Kd.fresh' (Kd.R_lt (kr_ HO_6)) k_ hk, Kd.fresh' (Kd.R_lt (kr_ HO_7)) k_ hk, Kd.freshB (g := gb301) (o := .cells #[.int .i64 x302000_1, .int .i64 x302001_1, .int .i64 x302002_1] 46 (0, 0)) (bk_ BK301) k_ hk, Kd.freshB (g := gb302) (o := .cells #[.int .i64 t313, .int .i64 t314, .int .i64 t315] 46 (0, 0)) (bk_ BK302) k_ hk, Kd.freshB (g := gb317) (o := .cells #[.int .i64 t313, .int .i64 t314, .int .i64 t315] 46 (0, 0)) (bk_ BK317) k_ hk⟩ | grind)); (case aO => exact (by (with_reducible repeat (first | apply Kd.R_alloc | apply Kd.R_drewN | apply Kd.R_drew)); exact Kd.R_mono HO320.out (fun _ hk => by first | exact ⟨hk.1.1.1.1.2, ⟨hk.1.1.1.2, ⟨hk.1.1.2, ⟨hk.1.2, hk.2⟩⟩⟩⟩ | grind))); (case aS => exact (below_size (bf_ HB))); (case aL => have := LMc47.out; omega); intro v326 w68 ho hb hg hat; rw [← Ny325.out] at ho; replace HO_6 := Aside0.mk (Kd.R_after (ok := (fun k_ => some k_ ≠ (.slice (some ad312) x7_1.length co52 : Value).ownBlock ∧ k_ ≠ gb301 ∧ k_ ≠ gb302 ∧ k_ ≠ gb317)) (kr_ HO_6) hg hat); replace BK301 := Aside0.mk (blk_grown (g := gb301) (o := .cells #[.int .i64 x302000_1, .int .i64 x302001_1, .int .i64 x302002_1] 46 (0, 0)) (bk_ BK301) hg (Kd.R_away HO320.out (fun _ hk => by first | exact hk.1.1.2 | grind))); replace BK302 := Aside0.mk (blk_grown (g := gb302) (o := .cells #[.int .i64 t313, .int .i64 t314, .int .i64 t315] 46 (0, 0)) (bk_ BK302) hg (Kd.R_away HO320.out (fun _ hk => by first | exact hk.1.2 | grind))); replace BK310 := Aside0.mk (blk_grown (g := gb310) (o := .cells #[.bool ((rd_T51 l0 x8_1).f0), .int .i64 ((rd_T51 l0 x8_1).f1.f0), .int .i64 ((rd_T51 l0 x8_1).f1.f1), .int .i64 ((rd_T51 l0 x8_1).f1.f2)] 51 (0, 0)) (bk_ BK310) hg (Kd.R_ne HO320.out BK310.out (by decide))); replace BK317 := Aside0.mk (blk_grown (g := gb317) (o := .cells #[.int .i64 t313, .int .i64 t314, .int .i64 t315] 46 (0, 0)) (bk_ BK317) hg (Kd.R_away HO320.out (fun _ hk => by first | exact hk.2 | grind))); replace HB := Aside0.mk (hb); replace HR324 := Aside0.mk ((show Kd.C k46 w68 A67 y321.length y321 from by rw [Ny321.out, KA67.out]; exact Kd.C_drop (m := 1) (c := co52) ((Kd.R_reads' (Kd.R_after (ok := (fun k_ => some k_ ≠ (u6 : Value).ownBlock ∧ k_ ≠ gb301 ∧ k_ ≠ gb302 ∧ k_ ≠ gb317)) (kr_ HO_7) hg hat)).2.2) KL67.out ((Kd.R_reads' (Kd.R_after (ok := (fun k_ => some k_ ≠ (u6 : Value).ownBlock ∧ k_ ≠ gb301 ∧ k_ ≠ gb302 ∧ k_ ≠ gb317)) (kr_ HO_7) hg hat)).2.1))); replace HO_7 := Aside0.mk (Kd.R_after (ok := (fun k_ => some k_ ≠ (u6 : Value).ownBlock ∧ k_ ≠ gb301 ∧ k_ ≠ gb302 ∧ k_ ≠ gb317)) (kr_ HO_7) hg hat); have HO327 := Aside0.mk (ho); clear HO320 ho hb hg hat))
             go_roundg kj14
             case measure => have := HK1.out; have := HJ14.out; omega
             case rel => exact ⟨(x6_1), (y325), (wrap64 (x8_1 + 1)), (x302000_1), (x302001_1), (x302002_1), (t313), (t314), (t315), (by first | rfl | (simp; done) | (simp [*]; done)), H', ⟨by have := HK1.out; have := HJ14.out; omega⟩, ⟨by (with_reducible repeat (first | apply Kd.R_alloc | apply Kd.R_drewN | apply Kd.R_drew)); exact Kd.R_mono HO_6.out (fun _ hk => by first | exact ⟨hk.2, ⟨hk.1.2.1, hk.1.2.2.1⟩⟩ | grind)⟩, ⟨by (with_reducible repeat (first | apply Kd.R_alloc | apply Kd.R_drewN | apply Kd.R_drew)); exact Kd.R_mono HO327.out (fun _ hk => by first | exact ⟨hk.1, ⟨hk.2.2.1, hk.2.2.2.1⟩⟩ | grind)⟩, ⟨bk_ BK301⟩, ⟨bk_ BK302⟩, ⟨bf_ HB⟩⟩
            ·rw [if_neg c47] at H
             exact absurd H (by simp)
           ·rw [if_neg c46] at H
            exact absurd H (by simp)
          ·rw [if_neg c44] at H
           exact absurd H (by simp)
         ·rw [if_neg c43] at H
          have c43b0 : ((rd_T51 l0 x8_1).f0) = false := by simpa using c43
          clear c43
          replace H := Option.bind_eq_some_iff.mp H
          obtain ⟨⟨t328, t329, t330, t331, t332, t333⟩, A690, H⟩ := H
          replace H : (if x6_1.length < 5864062014805 then (if x7_1.length < 5864062014805 then (spec_CarryRun.l0 kj14 l0 (x6_1 ++ [(⟨t328, t329, t330⟩ : S46)]) (x7_1 ++ [(⟨((rd_T51 l0 x8_1).f1.f0), ((rd_T51 l0 x8_1).f1.f1), ((rd_T51 l0 x8_1).f1.f2)⟩ : S46)]) (wrap64 (x8_1 + 1)) t331 t332 t333) else (none)) else (none)) = some (r1, r2, r3, r4, r5) := H
          have A69 := Aside0.mk A690
          clear A690
          by_cases c70 : x6_1.length < 5864062014805
          ·rw [if_pos c70] at H
           have LMc70 := Aside0.mk c70
           clear c70
           obtain ⟨y336, hy336⟩ : ∃ y_ : List (S46), y_ = (x6_1 ++ [(⟨t328, t329, t330⟩ : S46)]) := ⟨_, rfl⟩
           replace H : (if x7_1.length < 5864062014805 then (spec_CarryRun.l0 kj14 l0 y336 (x7_1 ++ [(⟨((rd_T51 l0 x8_1).f1.f0), ((rd_T51 l0 x8_1).f1.f1), ((rd_T51 l0 x8_1).f1.f2)⟩ : S46)]) (wrap64 (x8_1 + 1)) t331 t332 t333) else (none)) = some (r1, r2, r3, r4, r5) := by first | (rw [hy336]; with_reducible exact H) | (have H2_ := (Option.bind_some _ _).symm.trans H; rw [hy336]; with_reducible exact H2_) | (have H2_ := (Option.bind_some _ _).symm.trans H; with_reducible exact H2_) | with_reducible exact H | (rw [hy336]; exact H) | exact H
           have Ny336 := Aside0.mk hy336
           clear hy336
           by_cases c71 : x7_1.length < 5864062014805
           ·rw [if_pos c71] at H
            have LMc71 := Aside0.mk c71
            clear c71
            obtain ⟨y339, hy339⟩ : ∃ y_ : List (S46), y_ = (x7_1 ++ [(⟨((rd_T51 l0 x8_1).f1.f0), ((rd_T51 l0 x8_1).f1.f1), ((rd_T51 l0 x8_1).f1.f2)⟩ : S46)]) := ⟨_, rfl⟩
            replace H : (spec_CarryRun.l0 kj14 l0 y336 y339 (wrap64 (x8_1 + 1)) t331 t332 t333) = some (r1, r2, r3, r4, r5) := by first | (rw [hy339]; with_reducible exact H) | (have H2_ := (Option.bind_some _ _).symm.trans H; rw [hy339]; with_reducible exact H2_) | (have H2_ := (Option.bind_some _ _).symm.trans H; with_reducible exact H2_) | with_reducible exact H | (rw [hy339]; exact H) | exact H
            have Ny339 := Aside0.mk hy339
            clear hy339
            have H' := Aside0.mk H
            clear H; have hnb72 := NB310_301.out; have hnc72 := NB301_310.out; have hnb73 := NB310_302.out; have hnc73 := NB302_310.out
            have hcz74_0 : wc.cell? ⟨gb310, 0, none⟩ = some (.bool ((rd_T51 l0 x8_1).f0)) := (blk_cell BK310.out 0).trans rfl
            have hcz74_1 : wc.cell? ⟨gb310, 1, none⟩ = some (.int .i64 ((rd_T51 l0 x8_1).f1.f0)) := (blk_cell BK310.out 1).trans rfl
            have hcz74_2 : wc.cell? ⟨gb310, 2, none⟩ = some (.int .i64 ((rd_T51 l0 x8_1).f1.f1)) := (blk_cell BK310.out 2).trans rfl
            have hcz74_3 : wc.cell? ⟨gb310, 3, none⟩ = some (.int .i64 ((rd_T51 l0 x8_1).f1.f2)) := (blk_cell BK310.out 3).trans rfl
            have hfz74_0 := blk_frozen BK310.out 0; have hfz74_1 := blk_frozen BK310.out 1; have hfz74_2 := blk_frozen BK310.out 2; have hfz74_3 := blk_frozen BK310.out 3; have hnb75 := NB302_301.out; have hnc75 := NB301_302.out; obtain ⟨hcz76_0, hcz76_1, hcz76_2, hfz76_0, hfz76_1, hfz76_2⟩ := bz3_ BK302
            go_wp2_with (first | ((with_reducible refine gc_ 63 rfl ?_); refine gl_ 68 Try.func63 #[.agg #[.int .i64 ((rd_T51 l0 x8_1).f1.f0), .int .i64 ((rd_T51 l0 x8_1).f1.f1), .int .i64 ((rd_T51 l0 x8_1).f1.f2)], .agg #[.int .i64 x303000_1, .int .i64 x303001_1, .int .i64 x303002_1]] ?_; (with_reducible refine (spec_Charge.calls kj14 ((rd_T51 l0 x8_1).f1.f0) ((rd_T51 l0 x8_1).f1.f1) ((rd_T51 l0 x8_1).f1.f2) x303000_1 x303001_1 x303002_1 t328 t329 t330 t331 t332 t333 _ A69.out).mono ?_); rintro e w77 ⟨rfl, hb⟩; refine ⟨_, rfl, ?_⟩; replace HO_6 := Aside0.mk (Kd.R_below (kr_ HO_6) hb); replace HO_7 := Aside0.mk (Kd.R_below (kr_ HO_7) hb); replace BK301 := bb_ BK301 hb; replace BK302 := bb_ BK302 hb; replace BK310 := bb_ BK310 hb; replace HB := Aside0.mk (below_step (bf_ HB) hb); (try clear hb); (try clear hb2); (try clear hk); (try clear hi)) | ((with_reducible refine gd_ 12 rfl ?_); (try (refine gate_guard (by rfl) ?_; dsimp only)); refine bv_ 12 #[.int .i64 0, .int .i64 0, .int .i64 0] 46 ?_; intro gb334 hg w78 hbox hb; replace HO_6 := Aside0.mk (Kd.R_below (Kd.R_elderB (kr_ HO_6) gb334 (Nat.le_of_eq hg.symm)) hb); replace HO_7 := Aside0.mk (Kd.R_below (Kd.R_elderB (kr_ HO_7) gb334 (Nat.le_of_eq hg.symm)) hb); have BK334 := Aside0.mk (hbox); have GW334 := gw_ HB hg; have GE334 := gw_ HB hg; replace HB := Aside0.mk (below_step (bf_ HB) hb); have NB301_334 := nl_ BK301 hg; have NB334_301 := ng_ BK301 hg; replace BK301 := bb_ BK301 hb; have NB302_334 := nl_ BK302 hg; have NB334_302 := ng_ BK302 hg; replace BK302 := bb_ BK302 hb; have NB310_334 := nl_ BK310 hg; have NB334_310 := ng_ BK310 hg; replace BK310 := bb_ BK310 hb; clear hb hbox hg) | ((with_reducible refine gd_ 13 rfl ?_); (try (refine gate_guard (by rfl) ?_; dsimp only)); refine bv_ 13 #[.int .i64 0, .int .i64 0, .int .i64 0] 46 ?_; intro gb335 hg w79 hbox hb; replace HO_6 := Aside0.mk (Kd.R_below (Kd.R_elderB (kr_ HO_6) gb335 (Nat.le_of_eq hg.symm)) hb); replace HO_7 := Aside0.mk (Kd.R_below (Kd.R_elderB (kr_ HO_7) gb335 (Nat.le_of_eq hg.symm)) hb); have BK335 := Aside0.mk (hbox); have GW335 := gw_ HB hg; have GE335 := gw_ HB hg; replace HB := Aside0.mk (below_step (bf_ HB) hb); have NB301_335 := nl_ BK301 hg; have NB335_301 := ng_ BK301 hg; replace BK301 := bb_ BK301 hb; have NB302_335 := nl_ BK302 hg; have NB335_302 := ng_ BK302 hg; replace BK302 := bb_ BK302 hb; have NB310_335 := nl_ BK310 hg; have NB335_310 := ng_ BK310 hg; replace BK310 := bb_ BK310 hb; have NB334_335 := nl_ BK334 hg; have NB335_334 := ng_ BK334 hg; replace BK334 := bb_ BK334 hb; clear hb hbox hg; have hnb80 := NB334_301.out; have hnc80 := NB301_334.out; have hnb81 := NB334_302.out; have hnc81 := NB302_334.out; have hnb82 := NB334_310.out; have hnc82 := NB310_334.out; have hnb83 := NB334_335.out; have hnc83 := NB335_334.out; obtain ⟨hcz84_0, hcz84_1, hcz84_2, hfz84_0, hfz84_1, hfz84_2⟩ := bz3_ BK334; have hnb85 := NB335_301.out; have hnc85 := NB301_335.out; have hnb86 := NB335_302.out; have hnc86 := NB302_335.out; have hnb87 := NB335_310.out; have hnc87 := NB310_335.out; obtain ⟨hcz88_0, hcz88_1, hcz88_2, hfz88_0, hfz88_1, hfz88_2⟩ := bz3_ BK335) | ((with_reducible refine gate_builtin (b := .append) (xs := #[.tmp 71, .tmp 73]) rfl ?_); (try (refine gate_guard (by rfl) ?_; dsimp only)); at_builtin; refine Kd.R_append k46 (w0 := w) w.heap.size rfl (.tmp 71) (.tmp 73) 44 46 (.agg #[(.int .i64 0), (.int .i64 0), (.int .i64 0)]) 24 rfl Try.underlying44 info46 rfl (by decide) (by omega) u6 x6_1 (⟨t328, t329, t330⟩ : S46) [.int .i64 t328, .int .i64 t329, .int .i64 t330] (fun k_ => some k_ ≠ (u7 : Value).ownBlock ∧ k_ ≠ gb301 ∧ k_ ≠ gb302 ∧ k_ ≠ gb334 ∧ k_ ≠ gb335) (fun _ => False) rfl (by first | (go_simp; done) | (go_simp; rfl)) ?aP (fun _ hk => by first | exact hk.elim | grind) ?aF ?aO ?aB ?aS ?aL ?_; (case aP => exact k46_mkM _ _ _ (⟨t328, t329, t330⟩ : S46)); (case aB => exact (bf_ HB)); (case aF => exact (fun k_ hk => by first | exact ⟨Kd.fresh' (Kd.R_lt (by (with_reducible repeat (first | apply Kd.R_alloc | apply Kd.R_drewN | apply Kd.R_drew)); exact (Kd.R_mono (Kd.R_mono (Kd.R_far (p := ⟨gb335, 2, none⟩) (Kd.R_far (p := ⟨gb335, 1, none⟩) (Kd.R_far (p := ⟨gb335, 0, none⟩) (Kd.R_far (p := ⟨gb334, 2, none⟩) (Kd.R_far (p := ⟨gb334, 1, none⟩) (Kd.R_far (p := ⟨gb334, 0, none⟩) (Kd.R_mono (Kd.R_mono HO_7.out (fun k_ hk => (⟨hk, hk.1.2⟩ : _ ∧ k_ ≠ gb334))) (fun k_ hk => (⟨hk, hk.1.2⟩ : _ ∧ k_ ≠ gb335))) (fun _ hk => by first | exact hk.1.2 | grind) (.int .i64 t328)) (fun _ hk => by first | exact hk.1.2 | grind) (.int .i64 t329)) (fun _ hk => by first | exact hk.1.2 | grind) (.int .i64 t330)) (fun _ hk => by first | exact hk.2 | grind) (.int .i64 t331)) (fun _ hk => by first | exact hk.2 | grind) (.int .i64 t332)) (fun _ hk => by first | exact hk.2 | grind) (.int .i64 t333)) (fun _ h_ => h_.1)) (fun _ h_ => h_.1)))) k_ hk, Kd.freshB (g := gb301) (o := .cells #[.int .i64 x302000_1, .int .i64 x302001_1, .int .i64 x302002_1] 46 (0, 0)) (bl_ BK301) k_ hk, Kd.freshB (g := gb302) (o := .cells #[.int .i64 x303000_1, .int .i64 x303001_1, .int .i64 x303002_1] 46 (0, 0)) (bl_ BK302) k_ hk, Kd.freshB (g := gb334) (o := .cells #[.int .i64 t328, .int .i64 t329, .int .i64 t330] 46 (0, 0)) (by (with_reducible repeat (first | refine blk_drewN ?_ _ | refine blk_drew ?_ | refine blk_alloc ?_ _)); refine blk_far ?_ NB334_335.out _; (with_reducible repeat (first | refine blk_drewN ?_ _ | refine blk_drew ?_ | refine blk_alloc ?_ _)); refine blk_far ?_ NB334_335.out _; (with_reducible repeat (first | refine blk_drewN ?_ _ | refine blk_drew ?_ | refine blk_alloc ?_ _)); refine blk_far ?_ NB334_335.out _; (with_reducible repeat (first | refine blk_drewN ?_ _ | refine blk_drew ?_ | refine blk_alloc ?_ _)); refine blk_put (cs := #[.int .i64 t328, .int .i64 t329, .int .i64 0]) ?_ 2 _ rfl; (with_reducible repeat (first | refine blk_drewN ?_ _ | refine blk_drew ?_ | refine blk_alloc ?_ _)); refine blk_put (cs := #[.int .i64 t328, .int .i64 0, .int .i64 0]) ?_ 1 _ rfl; (with_reducible repeat (first | refine blk_drewN ?_ _ | refine blk_drew ?_ | refine blk_alloc ?_ _)); refine blk_put (cs := #[.int .i64 0, .int .i64 0, .int .i64 0]) ?_ 0 _ rfl; exact bk_ BK334) k_ hk, Kd.freshB (g := gb335) (o := .cells #[.int .i64 t331, .int .i64 t332, .int .i64 t333] 46 (0, 0)) (by (with_reducible repeat (first | refine blk_drewN ?_ _ | refine blk_drew ?_ | refine blk_alloc ?_ _)); refine blk_put (cs := #[.int .i64 t331, .int .i64 t332, .int .i64 0]) ?_ 2 _ rfl; (with_reducible repeat (first | refine blk_drewN ?_ _ | refine blk_drew ?_ | refine blk_alloc ?_ _)); refine blk_put (cs := #[.int .i64 t331, .int .i64 0, .int .i64 0]) ?_ 1 _ rfl; (with_reducible repeat (first | refine blk_drewN ?_ _ | refine blk_drew ?_ | refine blk_alloc ?_ _)); refine blk_put (cs := #[.int .i64 0, .int .i64 0, .int .i64 0]) ?_ 0 _ rfl; (with_reducible repeat (first | refine blk_drewN ?_ _ | refine blk_drew ?_ | refine blk_alloc ?_ _)); refine blk_far ?_ NB335_334.out _; (with_reducible repeat (first | refine blk_drewN ?_ _ | refine blk_drew ?_ | refine blk_alloc ?_ _)); refine blk_far ?_ NB335_334.out _; (with_reducible repeat (first | refine blk_drewN ?_ _ | refine blk_drew ?_ | refine blk_alloc ?_ _)); refine blk_far ?_ NB335_334.out _; exact bk_ BK335) k_ hk⟩ | grind)); (case aO => exact (by (with_reducible repeat (first | apply Kd.R_alloc | apply Kd.R_drewN | apply Kd.R_drew)); exact Kd.R_mono (Kd.R_far (p := ⟨gb335, 2, none⟩) (Kd.R_far (p := ⟨gb335, 1, none⟩) (Kd.R_far (p := ⟨gb335, 0, none⟩) (Kd.R_far (p := ⟨gb334, 2, none⟩) (Kd.R_far (p := ⟨gb334, 1, none⟩) (Kd.R_far (p := ⟨gb334, 0, none⟩) (Kd.R_mono (Kd.R_mono HO_6.out (fun k_ hk => by first | exact (⟨hk, hk.1.2⟩ : _ ∧ k_ ≠ gb334) | grind)) (fun k_ hk => by first | exact (⟨hk, hk.1.2⟩ : _ ∧ k_ ≠ gb335) | grind)) (fun _ hk => by first | exact hk.1.2 | grind) (.int .i64 t328)) (fun _ hk => by first | exact hk.1.2 | grind) (.int .i64 t329)) (fun _ hk => by first | exact hk.1.2 | grind) (.int .i64 t330)) (fun _ hk => by first | exact hk.2 | grind) (.int .i64 t331)) (fun _ hk => by first | exact hk.2 | grind) (.int .i64 t332)) (fun _ hk => by first | exact hk.2 | grind) (.int .i64 t333)) (fun _ hk => by first | exact ⟨hk.1.1.1.1.1, ⟨hk.1.1.1.1.2.1, ⟨hk.1.1.1.1.2.2, ⟨hk.1.1.1.2, hk.1.1.2⟩⟩⟩⟩ | grind))); (case aS => exact (below_size (bf_ HB))); (case aL => have := LMc70.out; omega); intro v337 w89 ho hb hg hat; rw [← Ny336.out] at ho; replace HO_7 := Aside0.mk (Kd.R_after (ok := (fun k_ => k_ ≠ gb301 ∧ k_ ≠ gb302 ∧ k_ ≠ gb334 ∧ k_ ≠ gb335)) (by (with_reducible repeat (first | apply Kd.R_alloc | apply Kd.R_drewN | apply Kd.R_drew)); exact Kd.R_mono (Kd.R_far (p := ⟨gb335, 2, none⟩) (Kd.R_far (p := ⟨gb335, 1, none⟩) (Kd.R_far (p := ⟨gb335, 0, none⟩) (Kd.R_far (p := ⟨gb334, 2, none⟩) (Kd.R_far (p := ⟨gb334, 1, none⟩) (Kd.R_far (p := ⟨gb334, 0, none⟩) (Kd.R_mono (Kd.R_mono HO_7.out (fun k_ hk => by first | exact (⟨hk, hk.1.2⟩ : _ ∧ k_ ≠ gb334) | grind)) (fun k_ hk => by first | exact (⟨hk, hk.1.2⟩ : _ ∧ k_ ≠ gb335) | grind)) (fun _ hk => by first | exact hk.1.2 | grind) (.int .i64 t328)) (fun _ hk => by first | exact hk.1.2 | grind) (.int .i64 t329)) (fun _ hk => by first | exact hk.1.2 | grind) (.int .i64 t330)) (fun _ hk => by first | exact hk.2 | grind) (.int .i64 t331)) (fun _ hk => by first | exact hk.2 | grind) (.int .i64 t332)) (fun _ hk => by first | exact hk.2 | grind) (.int .i64 t333)) (fun _ hk => by first | exact ⟨⟨hk.1.1.1.1.2.1, ⟨hk.1.1.1.1.2.2, ⟨hk.1.1.1.2, hk.1.1.2⟩⟩⟩, hk.1.1.1.1.1⟩ | grind)) hg hat); replace BK301 := Aside0.mk (blk_grown (g := gb301) (o := .cells #[.int .i64 x302000_1, .int .i64 x302001_1, .int .i64 x302002_1] 46 (0, 0)) (bl_ BK301) hg (Kd.R_away HO_6.out (fun _ hk => by first | exact hk.1.1.2.1 | grind))); replace BK302 := Aside0.mk (blk_grown (g := gb302) (o := .cells #[.int .i64 x303000_1, .int .i64 x303001_1, .int .i64 x303002_1] 46 (0, 0)) (bl_ BK302) hg (Kd.R_away HO_6.out (fun _ hk => by first | exact hk.1.1.2.2 | grind))); replace BK310 := Aside0.mk (blk_grown (g := gb310) (o := .cells #[.bool ((rd_T51 l0 x8_1).f0), .int .i64 ((rd_T51 l0 x8_1).f1.f0), .int .i64 ((rd_T51 l0 x8_1).f1.f1), .int .i64 ((rd_T51 l0 x8_1).f1.f2)] 51 (0, 0)) (bl_ BK310) hg (Kd.R_ne HO_6.out BK310.out (by decide))); replace BK334 := Aside0.mk (blk_grown (g := gb334) (o := .cells #[.int .i64 t328, .int .i64 t329, .int .i64 t330] 46 (0, 0)) (by (with_reducible repeat (first | refine blk_drewN ?_ _ | refine blk_drew ?_ | refine blk_alloc ?_ _)); refine blk_far ?_ NB334_335.out _; (with_reducible repeat (first | refine blk_drewN ?_ _ | refine blk_drew ?_ | refine blk_alloc ?_ _)); refine blk_far ?_ NB334_335.out _; (with_reducible repeat (first | refine blk_drewN ?_ _ | refine blk_drew ?_ | refine blk_alloc ?_ _)); refine blk_far ?_ NB334_335.out _; (with_reducible repeat (first | refine blk_drewN ?_ _ | refine blk_drew ?_ | refine blk_alloc ?_ _)); refine blk_put (cs := #[.int .i64 t328, .int .i64 t329, .int .i64 0]) ?_ 2 _ rfl; (with_reducible repeat (first | refine blk_drewN ?_ _ | refine blk_drew ?_ | refine blk_alloc ?_ _)); refine blk_put (cs := #[.int .i64 t328, .int .i64 0, .int .i64 0]) ?_ 1 _ rfl; (with_reducible repeat (first | refine blk_drewN ?_ _ | refine blk_drew ?_ | refine blk_alloc ?_ _)); refine blk_put (cs := #[.int .i64 0, .int .i64 0, .int .i64 0]) ?_ 0 _ rfl; exact bk_ BK334) hg (Kd.R_away HO_6.out (fun _ hk => by first | exact hk.1.2 | grind))); replace BK335 := Aside0.mk (blk_grown (g := gb335) (o := .cells #[.int .i64 t331, .int .i64 t332, .int .i64 t333] 46 (0, 0)) (by (with_reducible repeat (first | refine blk_drewN ?_ _ | refine blk_drew ?_ | refine blk_alloc ?_ _)); refine blk_put (cs := #[.int .i64 t331, .int .i64 t332, .int .i64 0]) ?_ 2 _ rfl; (with_reducible repeat (first | refine blk_drewN ?_ _ | refine blk_drew ?_ | refine blk_alloc ?_ _)); refine blk_put (cs := #[.int .i64 t331, .int .i64 0, .int .i64 0]) ?_ 1 _ rfl; (with_reducible repeat (first | refine blk_drewN ?_ _ | refine blk_drew ?_ | refine blk_alloc ?_ _)); refine blk_put (cs := #[.int .i64 0, .int .i64 0, .int .i64 0]) ?_ 0 _ rfl; (with_reducible repeat (first | refine blk_drewN ?_ _ | refine blk_drew ?_ | refine blk_alloc ?_ _)); refine blk_far ?_ NB335_334.out _; (with_reducible repeat (first | refine blk_drewN ?_ _ | refine blk_drew ?_ | refine blk_alloc ?_ _)); refine blk_far ?_ NB335_334.out _; (with_reducible repeat (first | refine blk_drewN ?_ _ | refine blk_drew ?_ | refine blk_alloc ?_ _)); refine blk_far ?_ NB335_334.out _; exact bk_ BK335) hg (Kd.R_away HO_6.out (fun _ hk => by first | exact hk.2 | grind))); replace HB := Aside0.mk (hb); have HO338 := Aside0.mk (ho); clear HO_6 ho hb hg hat; obtain ⟨hcz90_0, hcz90_1, hcz90_2, hfz90_0, hfz90_1, hfz90_2⟩ := bz3_ BK335; obtain ⟨hcz91_0, hcz91_1, hcz91_2, hfz91_0, hfz91_1, hfz91_2⟩ := bz3_ BK302; have hcz92_0 : w89.cell? ⟨gb310, 0, none⟩ = some (.bool ((rd_T51 l0 x8_1).f0)) := (blk_cell BK310.out 0).trans rfl; have hcz92_1 : w89.cell? ⟨gb310, 1, none⟩ = some (.int .i64 ((rd_T51 l0 x8_1).f1.f0)) := (blk_cell BK310.out 1).trans rfl; have hcz92_2 : w89.cell? ⟨gb310, 2, none⟩ = some (.int .i64 ((rd_T51 l0 x8_1).f1.f1)) := (blk_cell BK310.out 2).trans rfl; have hcz92_3 : w89.cell? ⟨gb310, 3, none⟩ = some (.int .i64 ((rd_T51 l0 x8_1).f1.f2)) := (blk_cell BK310.out 3).trans rfl; have hfz92_0 := blk_frozen BK310.out 0; have hfz92_1 := blk_frozen BK310.out 1; have hfz92_2 := blk_frozen BK310.out 2; have hfz92_3 := blk_frozen BK310.out 3) | ((with_reducible refine gate_builtin (b := .append) (xs := #[.tmp 76, .tmp 79]) rfl ?_); (try (refine gate_guard (by rfl) ?_; dsimp only)); at_builtin; refine Kd.R_append k46 (w0 := w) w.heap.size rfl (.tmp 76) (.tmp 79) 44 46 (.agg #[(.int .i64 0), (.int .i64 0), (.int .i64 0)]) 24 rfl Try.underlying44 info46 rfl (by decide) (by omega) u7 x7_1 (⟨((rd_T51 l0 x8_1).f1.f0), ((rd_T51 l0 x8_1).f1.f1), ((rd_T51 l0 x8_1).f1.f2)⟩ : S46) [.int .i64 ((rd_T51 l0 x8_1).f1.f0), .int .i64 ((rd_T51 l0 x8_1).f1.f1), .int .i64 ((rd_T51 l0 x8_1).f1.f2)] (fun k_ => some k_ ≠ (v337 : Value).ownBlock ∧ k_ ≠ gb301 ∧ k_ ≠ gb302 ∧ k_ ≠ gb334 ∧ k_ ≠ gb335) (fun _ => False) rfl (by first | (go_simp; done) | (go_simp; rfl)) ?aP (fun _ hk => by first | exact hk.elim | grind) ?aF ?aO ?aB ?aS ?aL ?_; (case aP => exact k46_mkM _ _ _ (⟨((rd_T51 l0 x8_1).f1.f0), ((rd_T51 l0 x8_1).f1.f1), ((rd_T51 l0 x8_1).f1.f2)⟩ : S46)); (case aB => exact (bf_ HB)); (case aF => exact (fun k_ hk => by first | exact ⟨Kd.fresh' (Kd.R_lt (by (with_reducible repeat (first | apply Kd.R_alloc | apply Kd.R_drewN | apply Kd.R_drew)); exact (Kd.R_mono (Kd.R_far (p := ⟨gb302, 2, none⟩) (Kd.R_far (p := ⟨gb302, 1, none⟩) (Kd.R_far (p := ⟨gb302, 0, none⟩) (Kd.R_mono HO338.out (fun k_ hk => (⟨hk, hk.2.2.1⟩ : _ ∧ k_ ≠ gb302))) (fun _ hk => by first | exact hk.2 | grind) (.int .i64 t331)) (fun _ hk => by first | exact hk.2 | grind) (.int .i64 t332)) (fun _ hk => by first | exact hk.2 | grind) (.int .i64 t333)) (fun _ h_ => h_.1)))) k_ hk, Kd.freshB (g := gb301) (o := .cells #[.int .i64 x302000_1, .int .i64 x302001_1, .int .i64 x302002_1] 46 (0, 0)) (bl_ BK301) k_ hk, Kd.freshB (g := gb302) (o := .cells #[.int .i64 t331, .int .i64 t332, .int .i64 t333] 46 (0, 0)) (by (with_reducible repeat (first | refine blk_drewN ?_ _ | refine blk_drew ?_ | refine blk_alloc ?_ _)); refine blk_put (cs := #[.int .i64 t331, .int .i64 t332, .int .i64 x303002_1]) ?_ 2 _ rfl; (with_reducible repeat (first | refine blk_drewN ?_ _ | refine blk_drew ?_ | refine blk_alloc ?_ _)); refine blk_put (cs := #[.int .i64 t331, .int .i64 x303001_1, .int .i64 x303002_1]) ?_ 1 _ rfl; (with_reducible repeat (first | refine blk_drewN ?_ _ | refine blk_drew ?_ | refine blk_alloc ?_ _)); refine blk_put (cs := #[.int .i64 x303000_1, .int .i64 x303001_1, .int .i64 x303002_1]) ?_ 0 _ rfl; exact bk_ BK302) k_ hk, Kd.freshB (g := gb334) (o := .cells #[.int .i64 t328, .int .i64 t329, .int .i64 t330] 46 (0, 0)) (bl_ BK334) k_ hk, Kd.freshB (g := gb335) (o := .cells #[.int .i64 t331, .int .i64 t332, .int .i64 t333] 46 (0, 0)) (bl_ BK335) k_ hk⟩ | grind)); (case aO => exact (by (with_reducible repeat (first | apply Kd.R_alloc | apply Kd.R_drewN | apply Kd.R_drew)); exact Kd.R_mono (Kd.R_far (p := ⟨gb302, 2, none⟩) (Kd.R_far (p := ⟨gb302, 1, none⟩) (Kd.R_far (p := ⟨gb302, 0, none⟩) (Kd.R_mono HO_7.out (fun k_ hk => by first | exact (⟨hk, hk.1.2.1⟩ : _ ∧ k_ ≠ gb302) | grind)) (fun _ hk => by first | exact hk.2 | grind) (.int .i64 t331)) (fun _ hk => by first | exact hk.2 | grind) (.int .i64 t332)) (fun _ hk => by first | exact hk.2 | grind) (.int .i64 t333)) (fun _ hk => by first | exact ⟨hk.1.2, ⟨hk.1.1.1, ⟨hk.1.1.2.1, ⟨hk.1.1.2.2.1, hk.1.1.2.2.2⟩⟩⟩⟩ | grind))); (case aS => exact (below_size (bf_ HB))); (case aL => have := LMc71.out; omega); intro v340 w93 ho hb hg hat; rw [← Ny339.out] at ho; replace BK301 := Aside0.mk (blk_grown (g := gb301) (o := .cells #[.int .i64 x302000_1, .int .i64 x302001_1, .int .i64 x302002_1] 46 (0, 0)) (bl_ BK301) hg (Kd.R_away HO_7.out (fun _ hk => by first | exact hk.1.1 | grind))); replace BK302 := Aside0.mk (blk_grown (g := gb302) (o := .cells #[.int .i64 t331, .int .i64 t332, .int .i64 t333] 46 (0, 0)) (by (with_reducible repeat (first | refine blk_drewN ?_ _ | refine blk_drew ?_ | refine blk_alloc ?_ _)); refine blk_put (cs := #[.int .i64 t331, .int .i64 t332, .int .i64 x303002_1]) ?_ 2 _ rfl; (with_reducible repeat (first | refine blk_drewN ?_ _ | refine blk_drew ?_ | refine blk_alloc ?_ _)); refine blk_put (cs := #[.int .i64 t331, .int .i64 x303001_1, .int .i64 x303002_1]) ?_ 1 _ rfl; (with_reducible repeat (first | refine blk_drewN ?_ _ | refine blk_drew ?_ | refine blk_alloc ?_ _)); refine blk_put (cs := #[.int .i64 x303000_1, .int .i64 x303001_1, .int .i64 x303002_1]) ?_ 0 _ rfl; exact bk_ BK302) hg (Kd.R_away HO_7.out (fun _ hk => by first | exact hk.1.2.1 | grind))); replace BK310 := Aside0.mk (blk_grown (g := gb310) (o := .cells #[.bool ((rd_T51 l0 x8_1).f0), .int .i64 ((rd_T51 l0 x8_1).f1.f0), .int .i64 ((rd_T51 l0 x8_1).f1.f1), .int .i64 ((rd_T51 l0 x8_1).f1.f2)] 51 (0, 0)) (bl_ BK310) hg (Kd.R_ne HO_7.out BK310.out (by decide))); replace BK334 := Aside0.mk (blk_grown (g := gb334) (o := .cells #[.int .i64 t328, .int .i64 t329, .int .i64 t330] 46 (0, 0)) (bl_ BK334) hg (Kd.R_away HO_7.out (fun _ hk => by first | exact hk.1.2.2.1 | grind))); replace BK335 := Aside0.mk (blk_grown (g := gb335) (o := .cells #[.int .i64 t331, .int .i64 t332, .int .i64 t333] 46 (0, 0)) (bl_ BK335) hg (Kd.R_away HO_7.out (fun _ hk => by first | exact hk.1.2.2.2 | grind))); replace HO338 := Aside0.mk (Kd.R_after (ok := (fun k_ => k_ ≠ gb301 ∧ k_ ≠ gb302 ∧ k_ ≠ gb334 ∧ k_ ≠ gb335)) (by (with_reducible repeat (first | apply Kd.R_alloc | apply Kd.R_drewN | apply Kd.R_drew)); exact Kd.R_mono (Kd.R_far (p := ⟨gb302, 2, none⟩) (Kd.R_far (p := ⟨gb302, 1, none⟩) (Kd.R_far (p := ⟨gb302, 0, none⟩) (Kd.R_mono HO338.out (fun k_ hk => by first | exact (⟨hk, hk.2.2.1⟩ : _ ∧ k_ ≠ gb302) | grind)) (fun _ hk => by first | exact hk.2 | grind) (.int .i64 t331)) (fun _ hk => by first | exact hk.2 | grind) (.int .i64 t332)) (fun _ hk => by first | exact hk.2 | grind) (.int .i64 t333)) (fun _ hk => by first | exact ⟨⟨hk.1.2.1, ⟨hk.1.2.2.1, ⟨hk.1.2.2.2.1, hk.1.2.2.2.2⟩⟩⟩, hk.1.1⟩ | grind)) hg hat); replace HB := Aside0.mk (hb); have HO341 := Aside0.mk (ho); clear HO_7 ho hb hg hat))
            go_roundg kj14
            case measure => have := HK1.out; have := HJ14.out; omega
            case rel => exact ⟨(y336), (y339), (wrap64 (x8_1 + 1)), (x302000_1), (x302001_1), (x302002_1), (t331), (t332), (t333), (by first | rfl | (simp; done) | (simp [*]; done)), H', ⟨by have := HK1.out; have := HJ14.out; omega⟩, ⟨by (with_reducible repeat (first | apply Kd.R_alloc | apply Kd.R_drewN | apply Kd.R_drew)); exact Kd.R_mono HO338.out (fun _ hk => by first | exact ⟨hk.2, ⟨hk.1.1, hk.1.2.1⟩⟩ | grind)⟩, ⟨by (with_reducible repeat (first | apply Kd.R_alloc | apply Kd.R_drewN | apply Kd.R_drew)); exact Kd.R_mono HO341.out (fun _ hk => by first | exact ⟨hk.1, ⟨hk.2.1, hk.2.2.1⟩⟩ | grind)⟩, ⟨bk_ BK301⟩, ⟨bk_ BK302⟩, ⟨bf_ HB⟩⟩
           ·rw [if_neg c71] at H
            exact absurd H (by simp)
          ·rw [if_neg c70] at H
           exact absurd H (by simp)
     ·rw [if_neg c14] at H
      exact absurd H (by simp)
    ·rw [if_neg c13] at H
     have c13b0 : decide (x8_1 < (l0.length : Int)) = false := decide_eq_false c13
     clear c13
     simp only [Option.some.injEq, Prod.mk.injEq] at H
     obtain ⟨rfl, rfl, rfl, rfl, rfl⟩ := H
     try go_wp2
     replace HO_6 := Aside0.mk (Kd.R_drew HO_6.out); replace HO_7 := Aside0.mk (Kd.R_drew HO_7.out); replace BK301 := Aside0.mk (blk_drew BK301.out); replace BK302 := Aside0.mk (blk_drew BK302.out); replace HB := Aside0.mk (below_drew1 HB.out)
     refine start_ (n := 5) (S := fun w' => cw_ w' gb302 0 (.int .i64 x303000_1) ∧ cw_ w' gb302 1 (.int .i64 x303001_1) ∧ cw_ w' gb302 2 (.int .i64 x303002_1)) (ds := []) (bs 5 0) (by kernel_rfl) rfl rfl ⟨bt_ BK302 0, bt_ BK302 1, bt_ BK302 2⟩ (fun hHeld => ?_)
     generalize wr.drew = w94 at HO_6 HO_7 BK301 BK302 HB hHeld ⊢
     refine ps0_ 0 81 (bs 5 1) ?_
     refine ps0_ 2 2 #[oT,oF,oT,oF,oF] ?_
     refine tk0_ 1 82 (bs 5 3) hHeld ?_
     refine on0_ 3 none (bs 5 4) (fun K hK => ?_)
     have hs95 := bc_ BK301 0 (.int .i64 x302000_1) rfl; have hfs95 := blk_frozen BK301.out 0; have hns95_1 := NB302_301.out; have hms95_1 := NB301_302.out; have hs96 := bc_ BK301 1 (.int .i64 x302001_1) rfl; have hfs96 := blk_frozen BK301.out 1; have hns96_1 := NB302_301.out; have hms96_1 := NB301_302.out; have hs97 := bc_ BK301 2 (.int .i64 x302002_1) rfl; have hfs97 := blk_frozen BK301.out 2; have hns97_1 := NB302_301.out; have hms97_1 := NB301_302.out
     refine skip_ (w1 := ?_) (by rfl) rfl ?_ ?_
     rotate_left
     ·go_simp
      rfl
     refine hK.out _ _ ⟨(cf3_ NB302_301.out hHeld.1), (cf3_ NB302_301.out hHeld.2.1), (cf3_ NB302_301.out hHeld.2.2)⟩ (fun hHeld => ?_)
     clear hK K
     refine ps0_ 4 4 (bs 5 5) ?_
     refine done_ (by kernel_rfl) ?_
     try go_wp2
     refine bodyPost_ret (results_list (rs := [.tmp 2, .cell 3 46, .tmp 4]) rfl (by simp) (.tmp (.cell gb301 46 #[.int .i64 x303000_1, .int .i64 x303001_1, .int .i64 x303002_1] (0, 0) _ rfl (by (with_reducible repeat (first | refine blk_drewN ?_ _ | refine blk_drew ?_ | refine blk_alloc ?_ _)); refine blk_put (cs := #[.int .i64 x303000_1, .int .i64 x303001_1, .int .i64 x302002_1]) ?_ 2 _ rfl; (with_reducible repeat (first | refine blk_drewN ?_ _ | refine blk_drew ?_ | refine blk_alloc ?_ _)); refine blk_put (cs := #[.int .i64 x303000_1, .int .i64 x302001_1, .int .i64 x302002_1]) ?_ 1 _ rfl; (with_reducible repeat (first | refine blk_drewN ?_ _ | refine blk_drew ?_ | refine blk_alloc ?_ _)); refine blk_put (cs := #[.int .i64 x302000_1, .int .i64 x302001_1, .int .i64 x302002_1]) ?_ 0 _ rfl; exact bk_ BK301) Try.underlying46 rfl (by kernel_rfl) (.tmp .nil)))) rfl ?_
     exact ⟨_, by first | rfl | (simp [errW_none, errW_some] <;> rfl) | (simp [*, errW_none, errW_some] <;> rfl), by (with_reducible repeat (first | apply Kd.R_alloc | apply Kd.R_drewN | apply Kd.R_drew)); exact Kd.R_mono (Kd.R_far (p := ⟨gb301, 2, none⟩) (Kd.R_far (p := ⟨gb301, 1, none⟩) (Kd.R_far (p := ⟨gb301, 0, none⟩) (Kd.R_mono HO_6.out (fun k_ hk => by first | exact (⟨hk, hk.2.1⟩ : _ ∧ k_ ≠ gb301) | grind)) (fun _ hk => by first | exact hk.2 | grind) (.int .i64 x303000_1)) (fun _ hk => by first | exact hk.2 | grind) (.int .i64 x303001_1)) (fun _ hk => by first | exact hk.2 | grind) (.int .i64 x303002_1)) (fun _ hk => by first | exact trivial | grind), bf_ HB⟩

/-! ### impl_within: function 45 -/
def impl_within.f (a0 : Int) (a1 : Int) (a2 : Int) : Option (Bool) := if a0 ≥ a1 then (some (decide (a0 ≤ a2))) else (some false)
set_option maxHeartbeats 8000000 in
set_option maxRecDepth 100000 in
theorem impl_within.calls (a0 : Int) (a1 : Int) (a2 : Int) (r : Bool) (w : World) (h : impl_within.f a0 a1 a2 = some r) :
  Calls Try.prog 45 #[.int .i64 a0, .int .i64 a1, .int .i64 a2] w fun e w' => e = .returned (.bool r) ∧ Drawn0 w w' := by
 have H : (if a0 ≥ a1 then (some (decide (a0 ≤ a2))) else (some false)) = some r := h
 clear h
 by_cases c4 : a0 ≥ a1
 ·rw [if_pos c4] at H
  have c4b0 : decide (a1 ≤ a0) = true := decide_eq_true c4
  clear c4
  obtain rfl := Option.some.inj H
  go_enter Try.func45, Try.ntmps45
  go_wp2
  go_ret
  exact ⟨by first | rfl | (simp; done) | (simp [*]; done), by repeat (first | exact Drawn0.refl _ | apply Drawn0.step)⟩
 ·rw [if_neg c4] at H
  have c4b0 : decide (a1 ≤ a0) = false := decide_eq_false c4
  clear c4
  obtain rfl := Option.some.inj H
  go_enter Try.func45, Try.ntmps45
  go_wp2
  go_ret
  exact ⟨by first | rfl | (simp; done) | (simp [*]; done), by repeat (first | exact Drawn0.refl _ | apply Drawn0.step)⟩

/-! ### impl_Vec_isFrom: function 129 -/
def impl_Vec_isFrom.f (a0_0 : Int) (a0_1 : Int) (a0_2 : Int) (a1 : Int) (a2 : Int) : Option (Bool) := (impl_within.f a0_0 a1 a2).bind fun t343 => (if t343 = true then ((impl_within.f a0_1 a1 a2).bind fun t344 => (if t344 = true then ((impl_within.f a0_2 a1 a2).bind fun t345 => (some t345)) else (some false))) else (some false))
set_option maxHeartbeats 8000000 in
set_option maxRecDepth 100000 in
theorem impl_Vec_isFrom.calls (a0_0 : Int) (a0_1 : Int) (a0_2 : Int) (a1 : Int) (a2 : Int) (r : Bool) (w : World) (h : impl_Vec_isFrom.f a0_0 a0_1 a0_2 a1 a2 = some r) :
  Calls Try.prog 129 #[.agg #[.int .i64 a0_0, .int .i64 a0_1, .int .i64 a0_2], .int .i64 a1, .int .i64 a2] w fun e w' => e = .returned (.bool r) ∧ Below w.heap.size w w' := by
 have hu46 := Try.underlying46; have HB := Aside0.mk (Below.refl w.heap.size w)
 have H : ((impl_within.f a0_0 a1 a2).bind fun t343 => (if t343 = true then ((impl_within.f a0_1 a1 a2).bind fun t344 => (if t344 = true then ((impl_within.f a0_2 a1 a2).bind fun t345 => (some t345)) else (some false))) else (some false))) = some r := h
 clear h
 replace H := Option.bind_eq_some_iff.mp H
 obtain ⟨t343, A40, H⟩ := H
 replace H : (if t343 = true then ((impl_within.f a0_1 a1 a2).bind fun t344 => (if t344 = true then ((impl_within.f a0_2 a1 a2).bind fun t345 => (some t345)) else (some false))) else (some false)) = some r := H
 have A4 := Aside0.mk A40
 clear A40
 by_cases c5 : t343 = true
 ·subst c5
  have H1 : ((impl_within.f a0_1 a1 a2).bind fun t344 => (if t344 = true then ((impl_within.f a0_2 a1 a2).bind fun t345 => (some t345)) else (some false))) = some r := by rw [if_pos rfl] at H; exact H
  clear H
  have H := H1
  clear H1
  replace H := Option.bind_eq_some_iff.mp H
  obtain ⟨t344, A60, H⟩ := H
  replace H : (if t344 = true then ((impl_within.f a0_2 a1 a2).bind fun t345 => (some t345)) else (some false)) = some r := H
  have A6 := Aside0.mk A60
  clear A60
  by_cases c7 : t344 = true
  ·subst c7
   have H1 : ((impl_within.f a0_2 a1 a2).bind fun t345 => (some t345)) = some r := by rw [if_pos rfl] at H; exact H
   clear H
   have H := H1
   clear H1
   replace H := Option.bind_eq_some_iff.mp H
   obtain ⟨t345, A80, H⟩ := H
   replace H : (some t345) = some r := H
   have A8 := Aside0.mk A80
   clear A80
   obtain rfl := Option.some.inj H
   go_enter Try.func129, Try.ntmps129
   go_wp2_with (first | ((with_reducible refine gd_ 3 rfl ?_); refine bv_ 3 #[.int .i64 a0_0, .int .i64 a0_1, .int .i64 a0_2] 46 ?_; intro gb342 hg w9 hbox hb; have BK342 := Aside0.mk (hbox); have GW342 := gw_ HB hg; have GE342 := gw_ HB hg; replace HB := Aside0.mk (below_step (be_ HB) hb); clear hb hbox hg; obtain ⟨hcz10_0, hcz10_1, hcz10_2, hfz10_0, hfz10_1, hfz10_2⟩ := bz3_ BK342) | ((with_reducible refine gc_ 45 rfl ?_); refine gl_ 11 Try.func45 #[.int .i64 a0_0, .int .i64 a1, .int .i64 a2] ?_; (with_reducible refine (impl_within.calls a0_0 a1 a2 true _ A4.out).mono ?_); rintro e w' ⟨rfl, ⟨nd, rfl⟩⟩; refine ⟨_, rfl, ?_⟩) | (go_at_call 45; (with_reducible refine (impl_within.calls a0_1 a1 a2 true _ A6.out).mono ?_); rintro e w' ⟨rfl, ⟨nd, rfl⟩⟩) | (go_at_call 45; (with_reducible refine (impl_within.calls a0_2 a1 a2 t345 _ A8.out).mono ?_); rintro e w' ⟨rfl, ⟨nd, rfl⟩⟩))
   go_ret
   exact ⟨by first | rfl | (simp [errW_none, errW_some] <;> rfl) | (simp [*, errW_none, errW_some] <;> rfl), bf_ HB⟩
  ·replace c7 := Bool.eq_false_iff.mpr c7
   subst c7
   have H1 : (some false) = some r := by rw [if_neg (show ¬ (false = true) by decide)] at H; exact H
   clear H
   have H := H1
   clear H1
   obtain rfl := Option.some.inj H
   go_enter Try.func129, Try.ntmps129
   go_wp2_with (first | ((with_reducible refine gd_ 3 rfl ?_); refine bv_ 3 #[.int .i64 a0_0, .int .i64 a0_1, .int .i64 a0_2] 46 ?_; intro gb342 hg w11 hbox hb; have BK342 := Aside0.mk (hbox); have GW342 := gw_ HB hg; have GE342 := gw_ HB hg; replace HB := Aside0.mk (below_step (be_ HB) hb); clear hb hbox hg; obtain ⟨hcz12_0, hcz12_1, hcz12_2, hfz12_0, hfz12_1, hfz12_2⟩ := bz3_ BK342) | ((with_reducible refine gc_ 45 rfl ?_); refine gl_ 11 Try.func45 #[.int .i64 a0_0, .int .i64 a1, .int .i64 a2] ?_; (with_reducible refine (impl_within.calls a0_0 a1 a2 true _ A4.out).mono ?_); rintro e w' ⟨rfl, ⟨nd, rfl⟩⟩; refine ⟨_, rfl, ?_⟩) | (go_at_call 45; (with_reducible refine (impl_within.calls a0_1 a1 a2 false _ A6.out).mono ?_); rintro e w' ⟨rfl, ⟨nd, rfl⟩⟩))
   go_ret
   exact ⟨by first | rfl | (simp [errW_none, errW_some] <;> rfl) | (simp [*, errW_none, errW_some] <;> rfl), bf_ HB⟩
 ·replace c5 := Bool.eq_false_iff.mpr c5
  subst c5
  have H1 : (some false) = some r := by rw [if_neg (show ¬ (false = true) by decide)] at H; exact H
  clear H
  have H := H1
  clear H1
  obtain rfl := Option.some.inj H
  go_enter Try.func129, Try.ntmps129
  go_wp2_with (first | ((with_reducible refine gd_ 3 rfl ?_); refine bv_ 3 #[.int .i64 a0_0, .int .i64 a0_1, .int .i64 a0_2] 46 ?_; intro gb342 hg w13 hbox hb; have BK342 := Aside0.mk (hbox); have GW342 := gw_ HB hg; have GE342 := gw_ HB hg; replace HB := Aside0.mk (below_step (be_ HB) hb); clear hb hbox hg; obtain ⟨hcz14_0, hcz14_1, hcz14_2, hfz14_0, hfz14_1, hfz14_2⟩ := bz3_ BK342) | ((with_reducible refine gc_ 45 rfl ?_); refine gl_ 11 Try.func45 #[.int .i64 a0_0, .int .i64 a1, .int .i64 a2] ?_; (with_reducible refine (impl_within.calls a0_0 a1 a2 false _ A4.out).mono ?_); rintro e w' ⟨rfl, ⟨nd, rfl⟩⟩; refine ⟨_, rfl, ?_⟩))
  go_ret
  exact ⟨by first | rfl | (simp [errW_none, errW_some] <;> rfl) | (simp [*, errW_none, errW_some] <;> rfl), bf_ HB⟩

/-! ### impl_CostOk: function 64 -/
def impl_CostOk.f (a0_0 : Int) (a0_1 : Int) (a0_2 : Int) : Option (Bool) := (impl_Vec_isFrom.f a0_0 a0_1 a0_2 1 1000).bind fun t347 => (some t347)
set_option maxHeartbeats 8000000 in
set_option maxRecDepth 100000 in
theorem impl_CostOk.calls (a0_0 : Int) (a0_1 : Int) (a0_2 : Int) (r : Bool) (w : World) (h : impl_CostOk.f a0_0 a0_1 a0_2 = some r) :
  Calls Try.prog 64 #[.agg #[.int .i64 a0_0, .int .i64 a0_1, .int .i64 a0_2]] w fun e w' => e = .returned (.bool r) ∧ Below w.heap.size w w' := by
 have hu46 := Try.underlying46; have HB := Aside0.mk (Below.refl w.heap.size w)
 have H : ((impl_Vec_isFrom.f a0_0 a0_1 a0_2 1 1000).bind fun t347 => (some t347)) = some r := h
 clear h
 replace H := Option.bind_eq_some_iff.mp H
 obtain ⟨t347, A20, H⟩ := H
 replace H : (some t347) = some r := H
 have A2 := Aside0.mk A20
 clear A20
 obtain rfl := Option.some.inj H
 go_enter Try.func64, Try.ntmps64
 go_wp2_with (first | ((with_reducible refine gd_ 1 rfl ?_); refine bv_ 1 #[.int .i64 a0_0, .int .i64 a0_1, .int .i64 a0_2] 46 ?_; intro gb346 hg w3 hbox hb; have BK346 := Aside0.mk (hbox); have GW346 := gw_ HB hg; have GE346 := gw_ HB hg; replace HB := Aside0.mk (below_step (be_ HB) hb); clear hb hbox hg; obtain ⟨hcz4_0, hcz4_1, hcz4_2, hfz4_0, hfz4_1, hfz4_2⟩ := bz3_ BK346) | ((with_reducible refine gc_ 129 rfl ?_); refine gl_ 4 Try.func129 #[.agg #[.int .i64 a0_0, .int .i64 a0_1, .int .i64 a0_2], .int .i64 1, .int .i64 1000] ?_; (with_reducible refine (impl_Vec_isFrom.calls a0_0 a0_1 a0_2 1 1000 t347 _ A2.out).mono ?_); rintro e w5 ⟨rfl, hb⟩; refine ⟨_, rfl, ?_⟩; replace BK346 := bb_ BK346 hb; replace HB := Aside0.mk (below_step (bf_ HB) hb); (try clear hb); (try clear hb2); (try clear hk); (try clear hi)))
 go_ret
 exact ⟨by first | rfl | (simp [errW_none, errW_some] <;> rfl) | (simp [*, errW_none, errW_some] <;> rfl), bf_ HB⟩

/-! ### impl_CarryOk: function 130 -/
def impl_CarryOk.f (a0_0 : Int) (a0_1 : Int) (a0_2 : Int) : Option (Bool) := (impl_Vec_isFrom.f a0_0 a0_1 a0_2 (-1000000) 1000000).bind fun t349 => (some t349)
set_option maxHeartbeats 8000000 in
set_option maxRecDepth 100000 in
theorem impl_CarryOk.calls (a0_0 : Int) (a0_1 : Int) (a0_2 : Int) (r : Bool) (w : World) (h : impl_CarryOk.f a0_0 a0_1 a0_2 = some r) :
  Calls Try.prog 130 #[.agg #[.int .i64 a0_0, .int .i64 a0_1, .int .i64 a0_2]] w fun e w' => e = .returned (.bool r) ∧ Below w.heap.size w w' := by
 have hu46 := Try.underlying46; have HB := Aside0.mk (Below.refl w.heap.size w)
 have H : ((impl_Vec_isFrom.f a0_0 a0_1 a0_2 (-1000000) 1000000).bind fun t349 => (some t349)) = some r := h
 clear h
 replace H := Option.bind_eq_some_iff.mp H
 obtain ⟨t349, A20, H⟩ := H
 replace H : (some t349) = some r := H
 have A2 := Aside0.mk A20
 clear A20
 obtain rfl := Option.some.inj H
 go_enter Try.func130, Try.ntmps130
 go_wp2_with (first | ((with_reducible refine gd_ 1 rfl ?_); refine bv_ 1 #[.int .i64 a0_0, .int .i64 a0_1, .int .i64 a0_2] 46 ?_; intro gb348 hg w3 hbox hb; have BK348 := Aside0.mk (hbox); have GW348 := gw_ HB hg; have GE348 := gw_ HB hg; replace HB := Aside0.mk (below_step (be_ HB) hb); clear hb hbox hg; obtain ⟨hcz4_0, hcz4_1, hcz4_2, hfz4_0, hfz4_1, hfz4_2⟩ := bz3_ BK348) | ((with_reducible refine gc_ 129 rfl ?_); refine gl_ 4 Try.func129 #[.agg #[.int .i64 a0_0, .int .i64 a0_1, .int .i64 a0_2], .int .i64 (-1000000), .int .i64 1000000] ?_; (with_reducible refine (impl_Vec_isFrom.calls a0_0 a0_1 a0_2 (-1000000) 1000000 t349 _ A2.out).mono ?_); rintro e w5 ⟨rfl, hb⟩; refine ⟨_, rfl, ?_⟩; replace BK348 := bb_ BK348 hb; replace HB := Aside0.mk (below_step (bf_ HB) hb); (try clear hb); (try clear hb2); (try clear hk); (try clear hi)))
 go_ret
 exact ⟨by first | rfl | (simp [errW_none, errW_some] <;> rfl) | (simp [*, errW_none, errW_some] <;> rfl), bf_ HB⟩

-- NOT PRINTED: function 170 (impl_both)

/-! ### impl_Vec_plus_1: function 171 -/
def impl_Vec_plus_1.f (a0 : Int) (a1 : Int) : Option (Int) := some (wrap64 (a0 + a1))
set_option maxHeartbeats 8000000 in
set_option maxRecDepth 100000 in
theorem impl_Vec_plus_1.calls (a0 : Int) (a1 : Int) (r : Int) (w : World) (h : impl_Vec_plus_1.f a0 a1 = some r) :
  Calls Try.prog 171 #[.int .i64 a0, .int .i64 a1] w fun e w' => e = .returned (.int .i64 r) ∧ Drawn0 w w' := by
 have H : (some (wrap64 (a0 + a1))) = some r := h
 clear h
 obtain rfl := Option.some.inj H
 go_enter Try.func171, Try.ntmps171
 go_wp2
 go_ret
 exact ⟨by first | rfl | (simp; done) | (simp [*]; done), by repeat (first | exact Drawn0.refl _ | apply Drawn0.step)⟩

/-! ### impl_both: function 170 -/
def impl_both.T1 : Bool × List (List Nat × List Nat) := (true, [([], []), ([], []), ([1], [1]), ([], []), ([3], [3]), ([0, 2, 4], [0, 2, 4]), ([], []), ([], []), ([7], [7]), ([], []), ([9], [9]), ([6, 8, 10, 5], [6, 8, 10]), ([], []), ([], []), ([13], [13]), ([], []), ([15], [15]), ([12, 14, 16, 11], [12, 14, 16]), ([5, 11, 17], [5, 11, 17]), ([18, 17, 0, 1, 2, 3, 4, 5, 6, 7, 8, 9, 10, 11, 12, 13, 14, 15, 16, 17, 18], [18])])
def impl_both.B1 : List Nat := [0, 0, 2, 0, 8, 31, 0, 0, 128, 0, 512, 2047, 0, 0, 8192, 0, 32768, 131071, 262143, 524287]
theorem impl_both.tab1 : rtab .any (opsOf Try.f170 1) = impl_both.T1 := by kernel_rfl
theorem impl_both.bits1 : waitsOk impl_both.T1.2 impl_both.B1 = true := by kernel_rfl
set_option maxHeartbeats 8000000 in
set_option maxRecDepth 100000 in
theorem impl_both.calls (a0_0 : Int) (a0_1 : Int) (a0_2 : Int) (a1_0 : Int) (a1_1 : Int) (a1_2 : Int) (t104 t105 t106 : Int) (nc : Nat) (fnc : Func) (lb : Array Value) (hf : Try.prog.funcs[nc]? = some fnc) (hname : (fnc.name == "runtime.NumGoroutine") = false) (hbd : fnc.body.isSome = true) (w : World)
  (h1 : ∀ (W : World), Below w.heap.size w W → Calls Try.prog nc (#[.int .i64 a0_0, .int .i64 a1_0] ++ lb) W fun e w' => e = .returned (.int .i64 t104) ∧ Below W.heap.size W w')
  (h2 : ∀ (W : World), Below w.heap.size w W → Calls Try.prog nc (#[.int .i64 a0_1, .int .i64 a1_1] ++ lb) W fun e w' => e = .returned (.int .i64 t105) ∧ Below W.heap.size W w')
  (h3 : ∀ (W : World), Below w.heap.size w W → Calls Try.prog nc (#[.int .i64 a0_2, .int .i64 a1_2] ++ lb) W fun e w' => e = .returned (.int .i64 t106) ∧ Below W.heap.size W w') :
  Calls Try.prog 170 #[.agg #[.int .i64 a0_0, .int .i64 a0_1, .int .i64 a0_2], .agg #[.int .i64 a1_0, .int .i64 a1_1, .int .i64 a1_2], .func (.func nc) #[] lb] w fun e w' => e = .returned (.agg #[.int .i64 t104, .int .i64 t105, .int .i64 t106]) ∧ Below w.heap.size w w' := by
 have HF := Aside0.mk hf
 have HNM := Aside0.mk hname
 have HBD := Aside0.mk hbd
 have HG1 := Aside0.mk h1
 have HG2 := Aside0.mk h2
 have HG3 := Aside0.mk h3
 clear hf hname hbd h1 h2 h3
 have hu46 := Try.underlying46
 have HB := Aside0.mk (Below.refl w.heap.size w)
 go_enter Try.func170, Try.ntmps170
 try go_wp2_with (first | ((with_reducible refine gd_ 3 rfl ?_); refine bv_ 3 #[.int .i64 a0_0, .int .i64 a0_1, .int .i64 a0_2] 46 ?_; intro gb101 hg w6 hbox hb; have BK101 := Aside0.mk (hbox); have GW101 := Aside0.mk ((by rw [hg]; exact (below_size (be_ HB)) : w.heap.size ≤ gb101)); have GE101 := Aside0.mk ((by rw [hg]; exact (below_size (be_ HB)) : w.heap.size ≤ gb101)); replace HB := Aside0.mk (below_step (be_ HB) hb); clear hb hbox hg) | ((with_reducible refine gd_ 4 rfl ?_); refine bv_ 4 #[.int .i64 a1_0, .int .i64 a1_1, .int .i64 a1_2] 46 ?_; intro gb102 hg w7 hbox hb; have BK102 := Aside0.mk (hbox); have GW102 := Aside0.mk ((by rw [hg]; exact (below_size (by repeat (first | (with_reducible first | exact HB.out | apply below_alloc | apply pw_below_drewN | apply below_drew1 | refine below_set ?_ GE101.out) | exact HB.out))) : w.heap.size ≤ gb102)); have GE102 := Aside0.mk ((by rw [hg]; exact (below_size (by repeat (first | (with_reducible first | exact HB.out | apply below_alloc | apply pw_below_drewN | apply below_drew1 | refine below_set ?_ GE101.out) | exact HB.out))) : w.heap.size ≤ gb102)); replace HB := Aside0.mk (below_step (by repeat (first | (with_reducible first | exact HB.out | apply below_alloc | apply pw_below_drewN | apply below_drew1 | refine below_set ?_ GE101.out) | exact HB.out)) hb); have NB101_102 := Aside0.mk ((by rw [hg]; exact Nat.ne_of_lt (blk_lt (g := gb101) (o := .cells #[.int .i64 a0_0, .int .i64 a0_1, .int .i64 a0_2] 46 (0, 0)) (bk_ BK101)) : gb101 ≠ gb102)); have NB102_101 := Aside0.mk ((by rw [hg]; exact Nat.ne_of_gt (blk_lt (g := gb101) (o := .cells #[.int .i64 a0_0, .int .i64 a0_1, .int .i64 a0_2] 46 (0, 0)) (bk_ BK101)) : gb102 ≠ gb101)); replace BK101 := Aside0.mk (blk_below (g := gb101) (o := .cells #[.int .i64 a0_0, .int .i64 a0_1, .int .i64 a0_2] 46 (0, 0)) (bk_ BK101) hb); clear hb hbox hg) | ((with_reducible refine gd_ 6 rfl ?_); refine bv_ 6 #[.int .i64 0, .int .i64 0, .int .i64 0] 46 ?_; intro gb103 hg w8 hbox hb; have BK103 := Aside0.mk (hbox); have GW103 := Aside0.mk ((by rw [hg]; exact (below_size (by repeat (first | (with_reducible first | exact HB.out | apply below_alloc | apply pw_below_drewN | apply below_drew1 | refine below_set ?_ GE101.out | refine below_set ?_ GE102.out) | exact HB.out))) : w.heap.size ≤ gb103)); have GE103 := Aside0.mk ((by rw [hg]; exact (below_size (by repeat (first | (with_reducible first | exact HB.out | apply below_alloc | apply pw_below_drewN | apply below_drew1 | refine below_set ?_ GE101.out | refine below_set ?_ GE102.out) | exact HB.out))) : w.heap.size ≤ gb103)); replace HB := Aside0.mk (below_step (by repeat (first | (with_reducible first | exact HB.out | apply below_alloc | apply pw_below_drewN | apply below_drew1 | refine below_set ?_ GE101.out | refine below_set ?_ GE102.out) | exact HB.out)) hb); have NB101_103 := Aside0.mk ((by rw [hg]; exact Nat.ne_of_lt (blk_lt (g := gb101) (o := .cells #[.int .i64 a0_0, .int .i64 a0_1, .int .i64 a0_2] 46 (0, 0)) (bk_ BK101)) : gb101 ≠ gb103)); have NB103_101 := Aside0.mk ((by rw [hg]; exact Nat.ne_of_gt (blk_lt (g := gb101) (o := .cells #[.int .i64 a0_0, .int .i64 a0_1, .int .i64 a0_2] 46 (0, 0)) (bk_ BK101)) : gb103 ≠ gb101)); replace BK101 := Aside0.mk (blk_below (g := gb101) (o := .cells #[.int .i64 a0_0, .int .i64 a0_1, .int .i64 a0_2] 46 (0, 0)) (bk_ BK101) hb); have NB102_103 := Aside0.mk ((by rw [hg]; exact Nat.ne_of_lt (blk_lt (g := gb102) (o := .cells #[.int .i64 a1_0, .int .i64 a1_1, .int .i64 a1_2] 46 (0, 0)) (bk_ BK102)) : gb102 ≠ gb103)); have NB103_102 := Aside0.mk ((by rw [hg]; exact Nat.ne_of_gt (blk_lt (g := gb102) (o := .cells #[.int .i64 a1_0, .int .i64 a1_1, .int .i64 a1_2] 46 (0, 0)) (bk_ BK102)) : gb103 ≠ gb102)); replace BK102 := Aside0.mk (blk_below (g := gb102) (o := .cells #[.int .i64 a1_0, .int .i64 a1_1, .int .i64 a1_2] 46 (0, 0)) (bk_ BK102) hb); clear hb hbox hg))
 have n0_ := Aside0.mk (blk_drew BK101.out)
 have n1_ := Aside0.mk (blk_drew BK102.out)
 have n2_ := Aside0.mk (blk_drew BK103.out)
 have n3_ := Aside0.mk (below_drew1 HB.out)
 clear BK101
 clear BK102
 clear BK103
 clear HB
 have BK101 := n0_
 have BK102 := n1_
 have BK103 := n2_
 have HB := n3_
 clear n0_ n1_ n2_ n3_
 refine start_ (n := 20) (S := fun w' => cw_ w' gb101 0 (.int .i64 a0_0) ∧ cw_ w' gb101 1 (.int .i64 a0_1) ∧ cw_ w' gb101 2 (.int .i64 a0_2) ∧ cw_ w' gb102 0 (.int .i64 a1_0) ∧ cw_ w' gb102 1 (.int .i64 a1_1) ∧ cw_ w' gb102 2 (.int .i64 a1_2)) (ds := []) (bs 20 0) (by kernel_rfl) rfl rfl ⟨(blk_cell BK101.out 0).trans rfl, (blk_cell BK101.out 1).trans rfl, (blk_cell BK101.out 2).trans rfl, (blk_cell BK102.out 0).trans rfl, (blk_cell BK102.out 1).trans rfl, (blk_cell BK102.out 2).trans rfl⟩ (fun hHeld => ?_); refine with_tabW impl_both.tab1 impl_both.bits1 (fun HT_ HW_ => ?_)
 generalize w8.drew = w9 at BK101 BK102 BK103 HB hHeld ⊢
 refine ps_ 0 7 (bs 20 1) HT_ ?_
 refine ps_ 1 8 (bs 20 2) HT_ ?_
 refine ps_ 3 10 (bm 20 11) HT_ ?_
 refine ps_ 6 13 (bm 20 75) HT_ ?_
 refine ps_ 7 14 (bm 20 203) HT_ ?_
 refine ps_ 9 16 (bm 20 715) HT_ ?_
 refine ps_ 12 19 (bm 20 4811) HT_ ?_
 refine ps_ 13 20 (bm 20 13003) HT_ ?_
 refine ps_ 15 22 (bm 20 45771) HT_ ?_
 refine tk_ 2 9 (bm 20 45775) HT_ HW_ hHeld ?_
 refine tk_ 4 11 (bm 20 45791) HT_ HW_ hHeld ?_
 refine tk_ 8 15 (bm 20 46047) HT_ HW_ hHeld ?_
 refine tk_ 10 17 (bm 20 47071) HT_ HW_ hHeld ?_
 refine tk_ 14 21 (bm 20 63455) HT_ HW_ hHeld ?_
 refine tk_ 16 23 (bm 20 128991) HT_ HW_ hHeld ?_
 refine on_ 5 (some 12) (bm 20 129023) HT_ (fun K hK => ?_)
 refine goesV_ (t := 7) HF.out HNM.out HBD.out #[.int .i64 a0_0, .int .i64 a1_0] lb (by rfl) rfl rfl (by rfl) mt_ ?_
 refine (HG1.out _ (by repeat (first | (with_reducible first | exact HB.out | apply below_alloc | apply pw_below_drewN | apply below_drew1 | refine below_set ?_ GE101.out | refine below_set ?_ GE102.out | refine below_set ?_ GE103.out) | exact HB.out))).mono ?_
 rintro e w10 ⟨rfl, hb⟩
 refine ⟨_, rfl, ?_⟩
 have n0_ := Aside0.mk (blk_below (g := gb101) (o := .cells #[.int .i64 a0_0, .int .i64 a0_1, .int .i64 a0_2] 46 (0, 0)) (bk_ BK101) hb)
 have n1_ := Aside0.mk (blk_below (g := gb102) (o := .cells #[.int .i64 a1_0, .int .i64 a1_1, .int .i64 a1_2] 46 (0, 0)) (bk_ BK102) hb)
 have n2_ := Aside0.mk (blk_below (g := gb103) (o := .cells #[.int .i64 0, .int .i64 0, .int .i64 0] 46 (0, 0)) (bk_ BK103) hb)
 have n3_ := Aside0.mk (below_step (by repeat (first | (with_reducible first | exact HB.out | apply below_alloc | apply pw_below_drewN | apply below_drew1 | refine below_set ?_ GE101.out | refine below_set ?_ GE102.out | refine below_set ?_ GE103.out) | exact HB.out)) hb)
 clear BK101
 clear BK102
 clear BK103
 clear HB
 have BK101 := n0_
 have BK102 := n1_
 have BK103 := n2_
 have HB := n3_
 clear n0_ n1_ n2_ n3_
 (try clear hb)
 (try clear hb2)
 (try clear hk)
 (try clear hi)
 refine hK.out _ _ ⟨(blk_cell BK101.out 0).trans rfl, (blk_cell BK101.out 1).trans rfl, (blk_cell BK101.out 2).trans rfl, (blk_cell BK102.out 0).trans rfl, (blk_cell BK102.out 1).trans rfl, (blk_cell BK102.out 2).trans rfl⟩ (fun hHeld => ?_)
 clear hK K
 refine norm_ (a' := ?_) ?_ ?_
 rotate_left
 ·show Act.put _ (some 12) _ = _
  simp only [Act.put, ls0_, ls1_, ls2_, i64_w, i32_w]
  rfl
 refine on_ 11 (some 18) (bs 20 17) HT_ (fun K hK => ?_)
 refine goesV_ (t := 13) HF.out HNM.out HBD.out #[.int .i64 a0_1, .int .i64 a1_1] lb (by rfl) rfl rfl (by rfl) mt_ ?_
 refine (HG2.out _ (by repeat (first | (with_reducible first | exact HB.out | apply below_alloc | apply pw_below_drewN | apply below_drew1 | refine below_set ?_ GE101.out | refine below_set ?_ GE102.out | refine below_set ?_ GE103.out) | exact HB.out))).mono ?_
 rintro e w11 ⟨rfl, hb⟩
 refine ⟨_, rfl, ?_⟩
 have n0_ := Aside0.mk (blk_below (g := gb101) (o := .cells #[.int .i64 a0_0, .int .i64 a0_1, .int .i64 a0_2] 46 (0, 0)) (bk_ BK101) hb)
 have n1_ := Aside0.mk (blk_below (g := gb102) (o := .cells #[.int .i64 a1_0, .int .i64 a1_1, .int .i64 a1_2] 46 (0, 0)) (bk_ BK102) hb)
 have n2_ := Aside0.mk (blk_below (g := gb103) (o := .cells #[.int .i64 0, .int .i64 0, .int .i64 0] 46 (0, 0)) (bk_ BK103) hb)
 have n3_ := Aside0.mk (below_step (by repeat (first | (with_reducible first | exact HB.out | apply below_alloc | apply pw_below_drewN | apply below_drew1 | refine below_set ?_ GE101.out | refine below_set ?_ GE102.out | refine below_set ?_ GE103.out) | exact HB.out)) hb)
 clear BK101
 clear BK102
 clear BK103
 clear HB
 have BK101 := n0_
 have BK102 := n1_
 have BK103 := n2_
 have HB := n3_
 clear n0_ n1_ n2_ n3_
 (try clear hb)
 (try clear hb2)
 (try clear hk)
 (try clear hi)
 refine hK.out _ _ ⟨(blk_cell BK101.out 0).trans rfl, (blk_cell BK101.out 1).trans rfl, (blk_cell BK101.out 2).trans rfl, (blk_cell BK102.out 0).trans rfl, (blk_cell BK102.out 1).trans rfl, (blk_cell BK102.out 2).trans rfl⟩ (fun hHeld => ?_)
 clear hK K
 refine norm_ (a' := ?_) ?_ ?_
 rotate_left
 ·show Act.put _ (some 18) _ = _
  simp only [Act.put, ls0_, ls1_, ls2_, i64_w, i32_w]
  rfl
 refine on_ 17 (some 24) (bs 20 18) HT_ (fun K hK => ?_)
 refine goesV_ (t := 19) HF.out HNM.out HBD.out #[.int .i64 a0_2, .int .i64 a1_2] lb (by rfl) rfl rfl (by rfl) mt_ ?_
 refine (HG3.out _ (by repeat (first | (with_reducible first | exact HB.out | apply below_alloc | apply pw_below_drewN | apply below_drew1 | refine below_set ?_ GE101.out | refine below_set ?_ GE102.out | refine below_set ?_ GE103.out) | exact HB.out))).mono ?_
 rintro e w12 ⟨rfl, hb⟩
 refine ⟨_, rfl, ?_⟩
 have n0_ := Aside0.mk (blk_below (g := gb101) (o := .cells #[.int .i64 a0_0, .int .i64 a0_1, .int .i64 a0_2] 46 (0, 0)) (bk_ BK101) hb)
 have n1_ := Aside0.mk (blk_below (g := gb102) (o := .cells #[.int .i64 a1_0, .int .i64 a1_1, .int .i64 a1_2] 46 (0, 0)) (bk_ BK102) hb)
 have n2_ := Aside0.mk (blk_below (g := gb103) (o := .cells #[.int .i64 0, .int .i64 0, .int .i64 0] 46 (0, 0)) (bk_ BK103) hb)
 have n3_ := Aside0.mk (below_step (by repeat (first | (with_reducible first | exact HB.out | apply below_alloc | apply pw_below_drewN | apply below_drew1 | refine below_set ?_ GE101.out | refine below_set ?_ GE102.out | refine below_set ?_ GE103.out) | exact HB.out)) hb)
 clear BK101
 clear BK102
 clear BK103
 clear HB
 have BK101 := n0_
 have BK102 := n1_
 have BK103 := n2_
 have HB := n3_
 clear n0_ n1_ n2_ n3_
 (try clear hb)
 (try clear hb2)
 (try clear hk)
 (try clear hi)
 refine hK.out _ _ ⟨(blk_cell BK101.out 0).trans rfl, (blk_cell BK101.out 1).trans rfl, (blk_cell BK101.out 2).trans rfl, (blk_cell BK102.out 0).trans rfl, (blk_cell BK102.out 1).trans rfl, (blk_cell BK102.out 2).trans rfl⟩ (fun hHeld => ?_)
 clear hK K
 refine norm_ (a' := ?_) ?_ ?_
 rotate_left
 ·show Act.put _ (some 24) _ = _
  simp only [Act.put, ls0_, ls1_, ls2_, i64_w, i32_w]
  rfl
 refine ps_ 18 25 (bs 20 19) HT_ ?_
 refine on_ 19 none (bs 20 20) HT_ (fun K hK => ?_)
 have hs13 : w12.cell? ⟨gb103, 0, none⟩ = some (.int .i64 0) := (blk_cell BK103.out 0).trans rfl
 have hfs13 := blk_frozen BK103.out 0
 have hns13_0 := NB101_103.out
 have hns13_1 := NB102_103.out
 have hms13_0 := NB103_101.out
 have hms13_1 := NB103_102.out
 have hs14 : w12.cell? ⟨gb103, 1, none⟩ = some (.int .i64 0) := (blk_cell BK103.out 1).trans rfl
 have hfs14 := blk_frozen BK103.out 1
 have hns14_0 := NB101_103.out
 have hns14_1 := NB102_103.out
 have hms14_0 := NB103_101.out
 have hms14_1 := NB103_102.out
 have hs15 : w12.cell? ⟨gb103, 2, none⟩ = some (.int .i64 0) := (blk_cell BK103.out 2).trans rfl
 have hfs15 := blk_frozen BK103.out 2
 have hns15_0 := NB101_103.out
 have hns15_1 := NB102_103.out
 have hms15_0 := NB103_101.out
 have hms15_1 := NB103_102.out
 refine skip_ (w1 := ?_) (by rfl) rfl ?_ ?_
 rotate_left
 ·go_simp
  rfl
 refine hK.out _ _ ⟨(cf3_ NB101_103.out hHeld.1), (cf3_ NB101_103.out hHeld.2.1), (cf3_ NB101_103.out hHeld.2.2.1), (cf3_ NB102_103.out hHeld.2.2.2.1), (cf3_ NB102_103.out hHeld.2.2.2.2.1), (cf3_ NB102_103.out hHeld.2.2.2.2.2)⟩ (fun hHeld => ?_)
 clear hK K
 refine done_ (done_of HT_.out (by kernel_rfl)) ?_
 try go_wp2
 refine bodyPost_ret (results_cell_row rfl _ _ gb103 46 #[.int .i64 t104, .int .i64 t105, .int .i64 t106] (0, 0) _ rfl (by (with_reducible repeat (first | refine blk_drewN ?_ _ | refine blk_drew ?_ | refine blk_alloc ?_ _)); refine blk_put (cs := #[.int .i64 t104, .int .i64 t105, .int .i64 0]) ?_ 2 _ rfl; (with_reducible repeat (first | refine blk_drewN ?_ _ | refine blk_drew ?_ | refine blk_alloc ?_ _)); refine blk_put (cs := #[.int .i64 t104, .int .i64 0, .int .i64 0]) ?_ 1 _ rfl; (with_reducible repeat (first | refine blk_drewN ?_ _ | refine blk_drew ?_ | refine blk_alloc ?_ _)); refine blk_put (cs := #[.int .i64 0, .int .i64 0, .int .i64 0]) ?_ 0 _ rfl; exact bk_ BK103) Try.underlying46 rfl (by kernel_rfl)) rfl ?_
 exact ⟨by first | rfl | (simp [errW_none, errW_some] <;> rfl) | (simp [*, errW_none, errW_some] <;> rfl), by repeat (first | (with_reducible first | exact HB.out | apply below_alloc | apply pw_below_drewN | apply below_drew1 | refine below_set ?_ GE101.out | refine below_set ?_ GE102.out | refine below_set ?_ GE103.out) | exact HB.out)⟩


def impl_both_171.f (a0_0 : Int) (a0_1 : Int) (a0_2 : Int) (a1_0 : Int) (a1_1 : Int) (a1_2 : Int) : Option (Int × Int × Int) := (impl_Vec_plus_1.f a0_0 a1_0).bind fun r1 => (impl_Vec_plus_1.f a0_1 a1_1).bind fun r2 => (impl_Vec_plus_1.f a0_2 a1_2).bind fun r3 => some (r1, r2, r3)
theorem impl_both_171.calls (a0_0 : Int) (a0_1 : Int) (a0_2 : Int) (a1_0 : Int) (a1_1 : Int) (a1_2 : Int) (r1 r2 r3 : Int) (w : World) (h : impl_both_171.f a0_0 a0_1 a0_2 a1_0 a1_1 a1_2 = some (r1, r2, r3)) :
  Calls Try.prog 170 #[.agg #[.int .i64 a0_0, .int .i64 a0_1, .int .i64 a0_2], .agg #[.int .i64 a1_0, .int .i64 a1_1, .int .i64 a1_2], .func (.func 171) #[] #[]] w fun e w' => e = .returned (.agg #[.int .i64 r1, .int .i64 r2, .int .i64 r3]) ∧ Below w.heap.size w w' := by
 unfold impl_both_171.f at h
 obtain ⟨q1, h1, h⟩ := Option.bind_eq_some_iff.mp h
 obtain ⟨q2, h2, h⟩ := Option.bind_eq_some_iff.mp h
 obtain ⟨q3, h3, h⟩ := Option.bind_eq_some_iff.mp h
 simp only [Option.some.injEq, Prod.mk.injEq] at h
 obtain ⟨e1, e2, e3⟩ := h
 subst e1 e2 e3
 exact impl_both.calls a0_0 a0_1 a0_2 a1_0 a1_1 a1_2 q1 q2 q3 171 Try.f171 #[] Try.func171 (by kernel_rfl) rfl w (fun W _ => (impl_Vec_plus_1.calls a0_0 a1_0 q1 W h1).mono (fun e w' (hh : _ ∧ _) => (⟨hh.1, by obtain ⟨nd, rfl⟩ := hh.2; first | exact pw_below_drewN (Below.refl _ _) | (apply pw_below_drewN; exact Below.refl _ _)⟩ : _ ∧ Below W.heap.size W w'))) (fun W _ => (impl_Vec_plus_1.calls a0_1 a1_1 q2 W h2).mono (fun e w' (hh : _ ∧ _) => (⟨hh.1, by obtain ⟨nd, rfl⟩ := hh.2; first | exact pw_below_drewN (Below.refl _ _) | (apply pw_below_drewN; exact Below.refl _ _)⟩ : _ ∧ Below W.heap.size W w'))) (fun W _ => (impl_Vec_plus_1.calls a0_2 a1_2 q3 W h3).mono (fun e w' (hh : _ ∧ _) => (⟨hh.1, by obtain ⟨nd, rfl⟩ := hh.2; first | exact pw_below_drewN (Below.refl _ _) | (apply pw_below_drewN; exact Below.refl _ _)⟩ : _ ∧ Below W.heap.size W w')))

/-! ### impl_Vec_plus: function 131 -/
def impl_Vec_plus.f (a0_0 : Int) (a0_1 : Int) (a0_2 : Int) (a1_0 : Int) (a1_1 : Int) (a1_2 : Int) : Option (Int × Int × Int) := (impl_both_171.f a0_0 a0_1 a0_2 a1_0 a1_1 a1_2).bind fun bt353 => (some (bt353.1, bt353.2.1, bt353.2.2))
set_option maxHeartbeats 8000000 in
set_option maxRecDepth 100000 in
theorem impl_Vec_plus.calls (a0_0 : Int) (a0_1 : Int) (a0_2 : Int) (a1_0 : Int) (a1_1 : Int) (a1_2 : Int) (r1 : Int) (r2 : Int) (r3 : Int) (w : World) (h : impl_Vec_plus.f a0_0 a0_1 a0_2 a1_0 a1_1 a1_2 = some (r1, r2, r3)) :
  Calls Try.prog 131 #[.agg #[.int .i64 a0_0, .int .i64 a0_1, .int .i64 a0_2], .agg #[.int .i64 a1_0, .int .i64 a1_1, .int .i64 a1_2]] w fun e w' => e = .returned (.agg #[.int .i64 r1, .int .i64 r2, .int .i64 r3]) ∧ Below w.heap.size w w' := by
 have hu46 := Try.underlying46; have HB := Aside0.mk (Below.refl w.heap.size w)
 have H : ((impl_both_171.f a0_0 a0_1 a0_2 a1_0 a1_1 a1_2).bind fun bt353 => (some (bt353.1, bt353.2.1, bt353.2.2))) = some (r1, r2, r3) := h
 clear h
 replace H := Option.bind_eq_some_iff.mp H
 obtain ⟨⟨t353, t354, t355⟩, A30, H⟩ := H
 replace H : (some (t353, t354, t355)) = some (r1, r2, r3) := H
 have A3 := Aside0.mk A30
 clear A30
 simp only [Option.some.injEq, Prod.mk.injEq] at H
 obtain ⟨rfl, rfl, rfl⟩ := H
 go_enter Try.func131, Try.ntmps131
 go_wp2_with (first | ((with_reducible refine gd_ 2 rfl ?_); refine bv_ 2 #[.int .i64 a0_0, .int .i64 a0_1, .int .i64 a0_2] 46 ?_; intro gb350 hg w4 hbox hb; have BK350 := Aside0.mk (hbox); have GW350 := gw_ HB hg; have GE350 := gw_ HB hg; replace HB := Aside0.mk (below_step (be_ HB) hb); clear hb hbox hg) | ((with_reducible refine gd_ 3 rfl ?_); refine bv_ 3 #[.int .i64 a1_0, .int .i64 a1_1, .int .i64 a1_2] 46 ?_; intro gb351 hg w5 hbox hb; have BK351 := Aside0.mk (hbox); have GW351 := gw_ HB hg; have GE351 := gw_ HB hg; replace HB := Aside0.mk (below_step (bf_ HB) hb); have NB350_351 := nl_ BK350 hg; have NB351_350 := ng_ BK350 hg; replace BK350 := bb_ BK350 hb; clear hb hbox hg) | ((with_reducible refine gd_ 4 rfl ?_); refine bv_ 4 #[.int .i64 0, .int .i64 0, .int .i64 0] 46 ?_; intro gb352 hg w6 hbox hb; have BK352 := Aside0.mk (hbox); have GW352 := gw_ HB hg; have GE352 := gw_ HB hg; replace HB := Aside0.mk (below_step (bf_ HB) hb); have NB350_352 := nl_ BK350 hg; have NB352_350 := ng_ BK350 hg; replace BK350 := bb_ BK350 hb; have NB351_352 := nl_ BK351 hg; have NB352_351 := ng_ BK351 hg; replace BK351 := bb_ BK351 hb; clear hb hbox hg; have hnb7 := NB350_351.out; have hnc7 := NB351_350.out; have hnb8 := NB350_352.out; have hnc8 := NB352_350.out; obtain ⟨hcz9_0, hcz9_1, hcz9_2, hfz9_0, hfz9_1, hfz9_2⟩ := bz3_ BK350; have hnb10 := NB351_352.out; have hnc10 := NB352_351.out; obtain ⟨hcz11_0, hcz11_1, hcz11_2, hfz11_0, hfz11_1, hfz11_2⟩ := bz3_ BK351) | ((with_reducible refine gc_ 170 rfl ?_); refine gl_ 7 Try.func170 #[.agg #[.int .i64 a0_0, .int .i64 a0_1, .int .i64 a0_2], .agg #[.int .i64 a1_0, .int .i64 a1_1, .int .i64 a1_2], .func (.func 171) #[] #[]] ?_; (with_reducible refine (impl_both_171.calls a0_0 a0_1 a0_2 a1_0 a1_1 a1_2 t353 t354 t355 _ A3.out).mono ?_); rintro e w12 ⟨rfl, hb⟩; refine ⟨_, rfl, ?_⟩; replace BK350 := bb_ BK350 hb; replace BK351 := bb_ BK351 hb; replace BK352 := bb_ BK352 hb; replace HB := Aside0.mk (below_step (bf_ HB) hb); (try clear hb); (try clear hb2); (try clear hk); (try clear hi); obtain ⟨hcz13_0, hcz13_1, hcz13_2, hfz13_0, hfz13_1, hfz13_2⟩ := bz3_ BK352))
 refine bodyPost_ret (results_cell_row rfl _ _ gb352 46 #[.int .i64 t353, .int .i64 t354, .int .i64 t355] (0, 0) _ rfl (by (with_reducible repeat (first | refine blk_drewN ?_ _ | refine blk_drew ?_ | refine blk_alloc ?_ _)); refine blk_put (cs := #[.int .i64 t353, .int .i64 t354, .int .i64 0]) ?_ 2 _ rfl; (with_reducible repeat (first | refine blk_drewN ?_ _ | refine blk_drew ?_ | refine blk_alloc ?_ _)); refine blk_put (cs := #[.int .i64 t353, .int .i64 0, .int .i64 0]) ?_ 1 _ rfl; (with_reducible repeat (first | refine blk_drewN ?_ _ | refine blk_drew ?_ | refine blk_alloc ?_ _)); refine blk_put (cs := #[.int .i64 0, .int .i64 0, .int .i64 0]) ?_ 0 _ rfl; exact bk_ BK352) Try.underlying46 rfl (by kernel_rfl)) rfl ?_
 exact ⟨by first | rfl | (simp [errW_none, errW_some] <;> rfl) | (simp [*, errW_none, errW_some] <;> rfl), bf_ HB⟩

-- NOT PRINTED: function 132 (impl_Vec_each)

end Go.Proofs.Ytlafobfjbkhioaa.PFnCarryBound
