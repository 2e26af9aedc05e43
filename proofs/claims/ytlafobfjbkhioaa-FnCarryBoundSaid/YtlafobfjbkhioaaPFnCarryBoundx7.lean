-- printed by a program of this session (wip/printx) out of the translation; Lean checks it
import Derived.Test.YtlafobfjbkhioaaVFnCarryBound
import Derived.Test.YtlafobfjbkhioaaPFnCarryBoundx0
import Derived.Test.YtlafobfjbkhioaaPFnCarryBoundx4
import Derived.Test.YtlafobfjbkhioaaPFnCarryBoundx5
import Derived.Test.YtlafobfjbkhioaaPFnCarryBoundx6
namespace Go.Proofs.Ytlafobfjbkhioaa.PFnCarryBound
open Go.RowKit Go.Proofs.YtlafobfjbkhioaaW.PrintWords Go.Proofs.YtlafobfjbkhioaaW.PrintLast Go.Proofs.YtlafobfjbkhioaaW.PrintMore
attribute [local go_sem] max2_int min2_int max_two min_two max_three min_three max_four min_four   -- for this text's walks alone
set_option linter.unusedVariables false
set_option linter.unusedSimpArgs false

/-! ### impl_CarryRun: function 22 -/
mutual
def impl_CarryRun.l0 : Nat → List (S46) → List (S46) → List (S51) → Int → Int → Int → Int → Int → Option ((List (S46)) × Int × Int × Int × Int)
  | 0, _, _, _, _, _, _, _, _ => none
  | k + 1, x5, x7, x21, x22, x23, x403000, x403001, x403002 => if x23 < x22 then (if 0 ≤ x23 then (if x23 < (x21.length : Int) then ((impl_CostOk.f ((rd_T51 x21 x23).f1.f0) ((rd_T51 x21 x23).f1.f1) ((rd_T51 x21 x23).f1.f2)).bind fun t405 => (if t405 = true then (if (rd_T51 x21 x23).f0 = true then (impl_CarryRun.j1 k x5 x7 x23 x21 x22 x23 ((x7.length : Int) == 0) x403000 x403001 x403002 ((rd_T51 x21 x23).f0) ((rd_T51 x21 x23).f1.f0) ((rd_T51 x21 x23).f1.f1) ((rd_T51 x21 x23).f1.f2)) else (impl_CarryRun.j1 k x5 x7 x23 x21 x22 x23 false x403000 x403001 x403002 ((rd_T51 x21 x23).f0) ((rd_T51 x21 x23).f1.f0) ((rd_T51 x21 x23).f1.f1) ((rd_T51 x21 x23).f1.f2))) else (impl_CarryRun.j1 k x5 x7 x23 x21 x22 x23 true x403000 x403001 x403002 ((rd_T51 x21 x23).f0) ((rd_T51 x21 x23).f1.f0) ((rd_T51 x21 x23).f1.f1) ((rd_T51 x21 x23).f1.f2)))) else (none)) else (none)) else (some (x5, x403000, x403001, x403002, 0))
def impl_CarryRun.j1 : Nat → List (S46) → List (S46) → Int → List (S51) → Int → Int → Bool → Int → Int → Int → Bool → Int → Int → Int → Option ((List (S46)) × Int × Int × Int × Int)
  | 0, _, _, _, _, _, _, _, _, _, _, _, _, _, _ => none
  | k + 1, x5, x7, x8, x21, x22, x23, x40, x403000, x403001, x403002, x405000, x405001, x405002, x405003 => if x40 = true then (some (([] : List (S46)), 0, 0, 0, wrap64 (x8 + 1))) else (if x405000 = true then (if 0 < (x7.length : Int) then ((impl_Settle.f k x403000 x403001 x403002 ((rd_T46 x7 0).f0) ((rd_T46 x7 0).f1) ((rd_T46 x7 0).f2) x405001 x405002 x405003).bind fun bt407 => (if bt407.2.2.2 = true then (if 1 ≤ (x7.length : Int) then (impl_CarryRun.l0 k x5 (x7.drop (1 : Int).toNat) x21 x22 (wrap64 (x23 + 1)) bt407.1 bt407.2.1 bt407.2.2.1) else (none)) else (some (([] : List (S46)), 0, 0, 0, wrap64 (x8 + 1))))) else (none)) else ((impl_Charge.f k x405001 x405002 x405003 x403000 x403001 x403002).bind fun bt415 => ((some (([(⟨bt415.1, bt415.2.1, bt415.2.2.1⟩ : S46)] : List (S46)) : List (S46))).bind fun y423 => (if x5.length + y423.length < 5864062014805 then ((some (([(⟨x405001, x405002, x405003⟩ : S46)] : List (S46)) : List (S46))).bind fun y429 => (if x7.length + y429.length < 5864062014805 then (impl_CarryRun.l0 k (x5 ++ y423) (x7 ++ y429) x21 x22 (wrap64 (x23 + 1)) bt415.2.2.2.1 bt415.2.2.2.2.1 bt415.2.2.2.2.2) else (none))) else (none)))))
end
def impl_CarryRun.f (k : Nat) (l0 : List (S51)) : Option ((List (S46)) × Int × Int × Int × Int) := if (l0.length : Int) > 1000 then (some (([] : List (S46)), 0, 0, 0, (-1))) else (impl_CarryRun.l0 k (([] : List (S46))) (([] : List (S46))) l0 (l0.length : Int) 0 0 0 0)
theorem impl_CarryRun.mono_l : ∀ k, (∀ y0 y1 y2 y3 y4 y5 y6 y7, LeO (impl_CarryRun.l0 k y0 y1 y2 y3 y4 y5 y6 y7) (impl_CarryRun.l0 (k + 1) y0 y1 y2 y3 y4 y5 y6 y7)) ∧ (∀ y0 y1 y2 y3 y4 y5 y6 y7 y8 y9 y10 y11 y12 y13, LeO (impl_CarryRun.j1 k y0 y1 y2 y3 y4 y5 y6 y7 y8 y9 y10 y11 y12 y13) (impl_CarryRun.j1 (k + 1) y0 y1 y2 y3 y4 y5 y6 y7 y8 y9 y10 y11 y12 y13))
 | 0 => ⟨fun _ _ _ _ _ _ _ _ r h => by simp [impl_CarryRun.l0] at h, fun _ _ _ _ _ _ _ _ _ _ _ _ _ _ r h => by simp [impl_CarryRun.j1] at h⟩
 | k + 1 => by
  obtain ⟨ih0, ih1⟩ := impl_CarryRun.mono_l k
  refine ⟨?_, ?_⟩
  ·intro y0 y1 y2 y3 y4 y5 y6 y7
   unfold impl_CarryRun.l0
   repeat' first
   | (with_reducible exact ih0 _ _ _ _ _ _ _ _)
   | (with_reducible exact ih1 _ _ _ _ _ _ _ _ _ _ _ _ _ _)
   | (with_reducible exact impl_Charge.mono _ _ _ _ _ _ _)
   | (with_reducible exact impl_Settle.mono _ _ _ _ _ _ _ _ _ _)
   | (with_reducible exact LeO.refl _)
   | (with_reducible exact LeO.none _)
   | (with_reducible refine LeO.ite ?_ ?_)
   | (with_reducible refine LeO.bind ?_ (fun _ => ?_))
   | exact ih0 _ _ _ _ _ _ _ _
   | exact ih1 _ _ _ _ _ _ _ _ _ _ _ _ _ _
   | exact impl_Charge.mono _ _ _ _ _ _ _
   | exact impl_Settle.mono _ _ _ _ _ _ _ _ _ _
   | exact LeO.none _
   | refine LeO.ite ?_ ?_
   | refine LeO.bind ?_ (fun _ => ?_)
  ·intro y0 y1 y2 y3 y4 y5 y6 y7 y8 y9 y10 y11 y12 y13
   unfold impl_CarryRun.j1
   repeat' first
   | (with_reducible exact ih0 _ _ _ _ _ _ _ _)
   | (with_reducible exact ih1 _ _ _ _ _ _ _ _ _ _ _ _ _ _)
   | (with_reducible exact impl_Charge.mono _ _ _ _ _ _ _)
   | (with_reducible exact impl_Settle.mono _ _ _ _ _ _ _ _ _ _)
   | (with_reducible exact LeO.refl _)
   | (with_reducible exact LeO.none _)
   | (with_reducible refine LeO.ite ?_ ?_)
   | (with_reducible refine LeO.bind ?_ (fun _ => ?_))
   | exact ih0 _ _ _ _ _ _ _ _
   | exact ih1 _ _ _ _ _ _ _ _ _ _ _ _ _ _
   | exact impl_Charge.mono _ _ _ _ _ _ _
   | exact impl_Settle.mono _ _ _ _ _ _ _ _ _ _
   | exact LeO.none _
   | refine LeO.ite ?_ ?_
   | refine LeO.bind ?_ (fun _ => ?_)
theorem impl_CarryRun.mono : ∀ a0 k, LeO (impl_CarryRun.f k a0) (impl_CarryRun.f (k + 1) a0) := by
 intro a0 k
 obtain ⟨ih0, ih1⟩ := impl_CarryRun.mono_l k
 unfold impl_CarryRun.f
 repeat' first
   | (with_reducible exact ih0 _ _ _ _ _ _ _ _)
   | (with_reducible exact ih1 _ _ _ _ _ _ _ _ _ _ _ _ _ _)
   | (with_reducible exact impl_Charge.mono _ _ _ _ _ _ _)
   | (with_reducible exact impl_Settle.mono _ _ _ _ _ _ _ _ _ _)
   | (with_reducible exact LeO.refl _)
   | (with_reducible exact LeO.none _)
   | (with_reducible refine LeO.ite ?_ ?_)
   | (with_reducible refine LeO.bind ?_ (fun _ => ?_))
   | exact ih0 _ _ _ _ _ _ _ _
   | exact ih1 _ _ _ _ _ _ _ _ _ _ _ _ _ _
   | exact impl_Charge.mono _ _ _ _ _ _ _
   | exact impl_Settle.mono _ _ _ _ _ _ _ _ _ _
   | exact LeO.none _
   | refine LeO.ite ?_ ?_
   | refine LeO.bind ?_ (fun _ => ?_)
def impl_CarryRun.T11 : Bool × List (List Nat × List Nat) := (true, [([], []), ([], []), ([1], [1]), ([0, 2], [0, 2]), ([], []), ([], []), ([5], [5]), ([6], [6]), ([4, 7, 3], [4, 7]), ([], []), ([3, 8, 0, 1, 2, 3], [0, 3]), ([8, 10, 0, 1, 2, 3, 4, 5, 6, 7, 8, 10], [4, 8]), ([9, 11, 0, 1, 2, 3, 4, 5, 6, 7, 8, 9, 10, 11], [9])])
def impl_CarryRun.B11 : List Nat := [0, 0, 2, 7, 0, 0, 32, 96, 255, 0, 511, 1535, 4095]
theorem impl_CarryRun.tab11 : rtab .any (opsOf Try.f22 11) = impl_CarryRun.T11 := by kernel_rfl
theorem impl_CarryRun.bits11 : waitsOk impl_CarryRun.T11.2 impl_CarryRun.B11 = true := by kernel_rfl
def impl_CarryRun.T12 : Bool × List (List Nat × List Nat) := (true, [([], []), ([], []), ([1], [1]), ([2], [2]), ([], []), ([4], [4]), ([0, 3, 5], [0, 3, 5]), ([6], [6]), ([7], [7]), ([7], [7]), ([], []), ([10, 8, 6, 0, 1, 2, 3, 4, 5, 6, 7, 8, 10], [8, 10]), ([9, 11, 0, 1, 2, 3, 4, 5, 6, 7, 8, 9, 10, 11], [9])])
def impl_CarryRun.B12 : List Nat := [0, 0, 2, 6, 0, 16, 63, 127, 255, 255, 0, 1535, 4095]
theorem impl_CarryRun.tab12 : rtab .any (opsOf Try.f22 12) = impl_CarryRun.T12 := by kernel_rfl
theorem impl_CarryRun.bits12 : waitsOk impl_CarryRun.T12.2 impl_CarryRun.B12 = true := by kernel_rfl
set_option maxHeartbeats 8000000 in
set_option maxRecDepth 100000 in
theorem impl_CarryRun.calls (k : Nat) (A0 : Option Addr) (c0 : Nat) (l0 : List (S51)) (r1 : List (S46)) (r2 : Int) (r3 : Int) (r4 : Int) (r5 : Int) (w : World) (hr0 : Kd.C k51 w A0 l0.length l0) (hc0 : l0.length ≤ c0) (h : impl_CarryRun.f k l0 = some (r1, r2, r3, r4, r5)) :
  Calls Try.prog 22 #[.slice A0 l0.length c0] w fun e w' => ∃ v0_ : Value, e = .returned (.tuple #[v0_, .agg #[.int .i64 r2, .int .i64 r3, .int .i64 r4], .int .i64 r5]) ∧ Kd.R k46 46 w' w.heap.size (fun _ => True) v0_ r1 ∧ Below w.heap.size w w' := by
 have hu46 := Try.underlying46; have hu51 := Try.underlying51
 have HR0 := Aside0.mk hr0
 have HC0 := Aside0.mk hc0
 clear hr0 hc0; have HB := Aside0.mk (Below.refl w.heap.size w)
 have H : (if (l0.length : Int) > 1000 then (some (([] : List (S46)), 0, 0, 0, (-1))) else (impl_CarryRun.l0 k (([] : List (S46))) (([] : List (S46))) l0 (l0.length : Int) 0 0 0 0)) = some (r1, r2, r3, r4, r5) := h
 clear h
 by_cases c2 : (l0.length : Int) > 1000
 ·rw [if_pos c2] at H
  have c2b0 : decide (1000 < (l0.length : Int)) = true := decide_eq_true c2
  have c2b1 : decide (1000 < l0.length) = true := decide_eq_true (by omega)
  clear c2
  simp only [Option.some.injEq, Prod.mk.injEq] at H
  obtain ⟨rfl, rfl, rfl, rfl, rfl⟩ := H
  go_enter Try.func22, Try.ntmps22
  go_wp2_with (first | ((with_reducible refine gd_ 3 rfl ?_); (try (refine gate_guard (by rfl) ?_; dsimp only)); refine bv_ 3 #[.int .i64 0, .int .i64 0, .int .i64 0] 46 ?_; intro gb395 hg w3 hbox hb; have BK395 := Aside0.mk (hbox); have GW395 := gw_ HB hg; have GE395 := gw_ HB hg; replace HB := Aside0.mk (below_step (be_ HB) hb); clear hb hbox hg; obtain ⟨hcz4_0, hcz4_1, hcz4_2, hfz4_0, hfz4_1, hfz4_2⟩ := bz3_ BK395))
  refine bodyPost_ret (results_list (rs := [.tmp 2, .cell 3 46, .tmp 4]) rfl (by simp) (.tmp (.cell gb395 46 #[.int .i64 0, .int .i64 0, .int .i64 0] (0, 0) _ rfl (by (with_reducible repeat (first | refine blk_drewN ?_ _ | refine blk_drew ?_ | refine blk_alloc ?_ _)); refine blk_put (cs := #[.int .i64 0, .int .i64 0, .int .i64 0]) ?_ 2 _ rfl; (with_reducible repeat (first | refine blk_drewN ?_ _ | refine blk_drew ?_ | refine blk_alloc ?_ _)); refine blk_put (cs := #[.int .i64 0, .int .i64 0, .int .i64 0]) ?_ 1 _ rfl; (with_reducible repeat (first | refine blk_drewN ?_ _ | refine blk_drew ?_ | refine blk_alloc ?_ _)); refine blk_put (cs := #[.int .i64 0, .int .i64 0, .int .i64 0]) ?_ 0 _ rfl; exact bk_ BK395) Try.underlying46 rfl (by kernel_rfl) (.tmp .nil)))) rfl ?_
  exact ⟨_, by first | rfl | (simp [errW_none, errW_some] <;> rfl) | (simp [*, errW_none, errW_some] <;> rfl), by first | exact Kd.R_nil _ _ _ _ _ | exact Kd.N_nil _ _ _ _ _ | exact Kd.V_nil _ _ _ _ _ | exact Kd.Q_nil _ _ _ _ _ | exact Kd.S_nil _ _ _ _ _, bf_ HB⟩
 ·rw [if_neg c2] at H
  have c2b0 : decide (1000 < (l0.length : Int)) = false := decide_eq_false c2
  have c2b1 : decide (1000 < l0.length) = false := decide_eq_false (by omega)
  clear c2
  obtain ⟨y396, hy396⟩ : ∃ y_ : List (S46), y_ = (([] : List (S46))) := ⟨_, rfl⟩
  replace H : (impl_CarryRun.l0 k y396 (([] : List (S46))) l0 (l0.length : Int) 0 0 0 0) = some (r1, r2, r3, r4, r5) := by first | (rw [hy396]; with_reducible exact H) | (have H2_ := (Option.bind_some _ _).symm.trans H; rw [hy396]; with_reducible exact H2_) | (have H2_ := (Option.bind_some _ _).symm.trans H; with_reducible exact H2_) | with_reducible exact H | (rw [hy396]; exact H) | exact H
  have Ny396 := Aside0.mk hy396
  clear hy396
  obtain ⟨y399, hy399⟩ : ∃ y_ : List (S46), y_ = (([] : List (S46))) := ⟨_, rfl⟩
  replace H : (impl_CarryRun.l0 k y396 y399 l0 (l0.length : Int) 0 0 0 0) = some (r1, r2, r3, r4, r5) := by first | (rw [hy399]; with_reducible exact H) | (have H2_ := (Option.bind_some _ _).symm.trans H; rw [hy399]; with_reducible exact H2_) | (have H2_ := (Option.bind_some _ _).symm.trans H; with_reducible exact H2_) | with_reducible exact H | (rw [hy399]; exact H) | exact H
  have Ny399 := Aside0.mk hy399
  clear hy399
  have H' := Aside0.mk H
  clear H
  go_enter Try.func22, Try.ntmps22
  go_wp2_with (first | ((with_reducible refine gd_ 3 rfl ?_); (try (refine gate_guard (by rfl) ?_; dsimp only)); refine bv_ 3 #[.int .i64 0, .int .i64 0, .int .i64 0] 46 ?_; intro gb395 hg w5 hbox hb; have BK395 := Aside0.mk (hbox); have GW395 := gw_ HB hg; have GE395 := gw_ HB hg; replace HB := Aside0.mk (below_step (be_ HB) hb); clear hb hbox hg) | ((with_reducible refine gd_ 18 rfl ?_); (try (refine gate_guard (by rfl) ?_; dsimp only)); refine Kd.R_lit k46 _ 46 ?hg (N := 18) ?hd (xs := ([] : List (S46))) (inner := []) (ok := fun _ => True) (okp := fun _ => True) ?hr ?hp (fun _ hk => by first | exact hk | grind) trivial (Below.refl _ _) (Nat.le_refl _) (by simp) ?_; (case hd => rfl); (case hg => rfl); (case hr => first | (go_simp; done) | (go_simp; rfl)); (case hp => exact (Reps.none _ _)); intro v397 w6 ho7 hb hg_ hnew_; clear hg_ hnew_; (first | rw [← Ny396.out] at ho7 | (simp only [Int.reduceToNat] at ho7; rw [← Ny396.out] at ho7)); have HO398 := Aside0.mk (Kd.R_lower (Kd.R_newB ho7 (g := gb395) (o := .cells #[.int .i64 0, .int .i64 0, .int .i64 0] 46 (0, 0)) (bk_ BK395)) (below_size (bf_ HB))); replace BK395 := bb_ BK395 hb; replace HB := Aside0.mk (below_step (bf_ HB) hb); clear hb ho7) | ((with_reducible refine gd_ 20 rfl ?_); (try (refine gate_guard (by rfl) ?_; dsimp only)); refine Kd.R_lit k46 _ 46 ?hg (N := 20) ?hd (xs := ([] : List (S46))) (inner := []) (ok := fun _ => True) (okp := fun _ => True) ?hr ?hp (fun _ hk => by first | exact hk | grind) trivial (Below.refl _ _) (Nat.le_refl _) (by simp) ?_; (case hd => rfl); (case hg => rfl); (case hr => first | (go_simp; done) | (go_simp; rfl)); (case hp => exact (Reps.none _ _)); intro v400 w8 ho9 hb hg_ hnew_; clear hg_ hnew_; (first | rw [← Ny399.out] at ho9 | (simp only [Int.reduceToNat] at ho9; rw [← Ny399.out] at ho9)); have HO401 := Aside0.mk (Kd.R_lower (Kd.R_newB (Kd.R_new' ho9 (Kd.R_lt (kr_ HO398))) (g := gb395) (o := .cells #[.int .i64 0, .int .i64 0, .int .i64 0] 46 (0, 0)) (bk_ BK395)) (below_size (bf_ HB))); replace HO398 := Aside0.mk (Kd.R_elder' (kr_ HO398) (Kd.R_base ho9) hb); replace BK395 := bb_ BK395 hb; replace HB := Aside0.mk (below_step (bf_ HB) hb); clear hb ho9) | ((with_reducible refine gd_ 6 rfl ?_); (try (refine gate_guard (by rfl) ?_; dsimp only)); refine bv_ 6 #[.int .i64 0, .int .i64 0, .int .i64 0] 46 ?_; intro gb402 hg w10 hbox hb; replace HO398 := Aside0.mk (Kd.R_below (Kd.R_elderB (kr_ HO398) gb402 (Nat.le_of_eq hg.symm)) hb); replace HO401 := Aside0.mk (Kd.R_below (Kd.R_elderB (kr_ HO401) gb402 (Nat.le_of_eq hg.symm)) hb); have BK402 := Aside0.mk (hbox); have GW402 := gw_ HB hg; have GE402 := gw_ HB hg; replace HB := Aside0.mk (below_step (bf_ HB) hb); have NB395_402 := nl_ BK395 hg; have NB402_395 := ng_ BK395 hg; replace BK395 := bb_ BK395 hb; clear hb hbox hg; have hnb11 := NB402_395.out; have hnc11 := NB395_402.out; obtain ⟨hcz12_0, hcz12_1, hcz12_2, hfz12_0, hfz12_1, hfz12_2⟩ := bz3_ BK402))
  go_loopg [5, 7, 23] k (fun kq v5 v7 v23 w' => ∃ (x5_1 : List (S46)) (x7_1 : List (S46)) (x23_1 : Int) (x396000_1 : Int) (x396001_1 : Int) (x396002_1 : Int) (x403000_1 : Int) (x403001_1 : Int) (x403002_1 : Int), v23 = .int .i64 x23_1 ∧ Aside0 (impl_CarryRun.l0 kq x5_1 x7_1 l0 (l0.length : Int) x23_1 x403000_1 x403001_1 x403002_1 = some (r1, r2, r3, r4, r5)) ∧ Aside0 (kq ≤ k) ∧ Aside0 (Kd.R k46 46 w' w.heap.size (fun k_ => some k_ ≠ (v7 : Value).ownBlock ∧ k_ ≠ gb395 ∧ k_ ≠ gb402) v5 x5_1) ∧ Aside0 (Kd.Q k46 46 w' w.heap.size (fun k_ => some k_ ≠ (v5 : Value).ownBlock ∧ k_ ≠ gb395 ∧ k_ ≠ gb402) v7 x7_1) ∧ Aside0 (w'.heap[gb395]? = some (.cells #[.int .i64 x396000_1, .int .i64 x396001_1, .int .i64 x396002_1] 46 (0, 0))) ∧ Aside0 (w'.heap[gb402]? = some (.cells #[.int .i64 x403000_1, .int .i64 x403001_1, .int .i64 x403002_1] 46 (0, 0))) ∧ Aside0 (Below w.heap.size w w'))
  case atStart => exact ⟨(y396), (y399), (0), (0), (0), (0), (0), (0), (0), (by first | rfl | (simp; done) | (simp [*]; done)), H', ⟨Nat.le_refl _⟩, ⟨by (with_reducible repeat (first | apply Kd.R_alloc | apply Kd.R_drewN | apply Kd.R_drew)); exact Kd.R_mono (Kd.R_far (p := ⟨gb402, 2, none⟩) (Kd.R_far (p := ⟨gb402, 1, none⟩) (Kd.R_far (p := ⟨gb402, 0, none⟩) (Kd.R_mono (ok' := fun k_ => _ ∧ k_ ≠ gb402) HO398.out (fun k_ hk => by first | exact (⟨hk, hk.2⟩ : _ ∧ k_ ≠ gb402) | grind)) (fun _ hk => by first | exact hk.2 | grind) (.int .i64 0)) (fun _ hk => by first | exact hk.2 | grind) (.int .i64 0)) (fun _ hk => by first | exact hk.2 | grind) (.int .i64 0)) (fun _ hk => by first | exact ⟨hk.1.1.2, ⟨hk.1.1.1.2, hk.1.2⟩⟩ | grind)⟩, ⟨Kd.Q_of_R (by (with_reducible repeat (first | apply Kd.R_alloc | apply Kd.R_drewN | apply Kd.R_drew)); exact Kd.R_mono (Kd.R_far (p := ⟨gb402, 2, none⟩) (Kd.R_far (p := ⟨gb402, 1, none⟩) (Kd.R_far (p := ⟨gb402, 0, none⟩) (Kd.R_mono (ok' := fun k_ => _ ∧ k_ ≠ gb402) HO401.out (fun k_ hk => by first | exact (⟨hk, hk.2⟩ : _ ∧ k_ ≠ gb402) | grind)) (fun _ hk => by first | exact hk.2 | grind) (.int .i64 0)) (fun _ hk => by first | exact hk.2 | grind) (.int .i64 0)) (fun _ hk => by first | exact hk.2 | grind) (.int .i64 0)) (fun _ hk => by first | exact ⟨hk.1.1.1.2, ⟨hk.1.1.2, hk.1.2⟩⟩ | grind))⟩, ⟨by (with_reducible repeat (first | refine blk_drewN ?_ _ | refine blk_drew ?_ | refine blk_alloc ?_ _)); refine blk_far ?_ NB395_402.out _; (with_reducible repeat (first | refine blk_drewN ?_ _ | refine blk_drew ?_ | refine blk_alloc ?_ _)); refine blk_far ?_ NB395_402.out _; (with_reducible repeat (first | refine blk_drewN ?_ _ | refine blk_drew ?_ | refine blk_alloc ?_ _)); refine blk_far ?_ NB395_402.out _; exact bk_ BK395⟩, ⟨by (with_reducible repeat (first | refine blk_drewN ?_ _ | refine blk_drew ?_ | refine blk_alloc ?_ _)); refine blk_put (cs := #[.int .i64 0, .int .i64 0, .int .i64 0]) ?_ 2 _ rfl; (with_reducible repeat (first | refine blk_drewN ?_ _ | refine blk_drew ?_ | refine blk_alloc ?_ _)); refine blk_put (cs := #[.int .i64 0, .int .i64 0, .int .i64 0]) ?_ 1 _ rfl; (with_reducible repeat (first | refine blk_drewN ?_ _ | refine blk_drew ?_ | refine blk_alloc ?_ _)); refine blk_put (cs := #[.int .i64 0, .int .i64 0, .int .i64 0]) ?_ 0 _ rfl; exact bk_ BK402⟩, ⟨bf_ HB⟩⟩
  case round =>
   clear H'
   (try clear c1); (try clear c2); (try clear c2b0); (try clear c2b1); (try clear p2); (try clear c11); (try clear hcz12_0 hcz12_1 hcz12_2 hfz12_0 hfz12_1 hfz12_2); (try clear hcz4_0 hcz4_1 hcz4_2 hfz4_0 hfz4_1 hfz4_2)
   obtain ⟨x5_1, x7_1, x23_1, x396000_1, x396001_1, x396002_1, x403000_1, x403001_1, x403002_1, rfl, HA, HK1, HO_5, HO_7, BK395, BK402, HB⟩ := hrel
   cases gk with
   | zero => exact absurd HA.out (by simp [impl_CarryRun.l0])
   | succ k1 =>
    have H := HA.out
    clear HA
    simp only [impl_CarryRun.l0] at H
    by_cases c13 : x23_1 < (l0.length : Int)
    ·rw [if_pos c13] at H
     have c13b0 : decide (x23_1 < (l0.length : Int)) = true := decide_eq_true c13
     clear c13
     by_cases c14 : 0 ≤ x23_1
     ·rw [if_pos c14] at H
      have c14b0 : decide (0 ≤ x23_1) = true := decide_eq_true c14
      clear c14
      by_cases c15 : x23_1 < (l0.length : Int)
      ·rw [if_pos c15] at H
       have c15b0 : decide (x23_1 < (l0.length : Int)) = true := decide_eq_true c15
       clear c15
       have HC16 := Aside0.mk H
       clear H
       have p403 : 0 ≤ (x23_1 : Int) := od_
       have q403 : x23_1 < (l0.length : Int) := od_
       obtain ⟨ad403, e403, hx403_0, hx403_1, hx403_2, hx403_3⟩ := at_T51 HR0.out x23_1 p403 q403
       cases e403
       replace hx403_0 := hb_ HB hx403_0
       replace hx403_1 := hb_ HB hx403_1
       replace hx403_2 := hb_ HB hx403_2
       replace hx403_3 := hb_ HB hx403_3
       replace p403 := eq_true p403
       replace q403 := eq_true q403
       go_upto_region 7 with (first | ((with_reducible refine gd_ 9 rfl ?_); (try (refine gate_guard (by rfl) ?_; dsimp only)); refine bv_ 9 #[.bool false, .int .i64 0, .int .i64 0, .int .i64 0] 51 ?_; intro gb404 hg w17 hbox hb; replace HO_5 := Aside0.mk (Kd.R_below (kr_ HO_5) hb); replace HO_7 := Aside0.mk (Kd.Q_below (by (with_reducible repeat (first | apply Kd.Q_alloc | apply Kd.Q_drewN | apply Kd.Q_drew)); exact HO_7.out) hb); have BK404 := Aside0.mk (hbox); have GW404 := gw_ HB hg; have GE404 := gw_ HB hg; replace HB := Aside0.mk (below_step (bf_ HB) hb); have NB395_404 := nl_ BK395 hg; have NB404_395 := ng_ BK395 hg; replace BK395 := bb_ BK395 hb; have NB402_404 := nl_ BK402 hg; have NB404_402 := ng_ BK402 hg; replace BK402 := bb_ BK402 hb; clear hb hbox hg; have hnb18 := NB404_395.out; have hnc18 := NB395_404.out; have hnb19 := NB404_402.out; have hnc19 := NB402_404.out; obtain ⟨hcz20_0, hcz20_1, hcz20_2, hcz20_3, hfz20_0, hfz20_1, hfz20_2, hfz20_3⟩ := bz4_ BK404))
       (try simp only [Act.put, ls0_, ls1_, ls2_])
       go_cut [40] (fun v40 wc => ∃ (kq : Nat) (x40_15 : Bool), v40 = .bool x40_15 ∧ Aside0 (impl_CarryRun.j1 kq x5_1 x7_1 x23_1 l0 (l0.length : Int) x23_1 x40_15 x403000_1 x403001_1 x403002_1 ((rd_T51 l0 x23_1).f0) ((rd_T51 l0 x23_1).f1.f0) ((rd_T51 l0 x23_1).f1.f1) ((rd_T51 l0 x23_1).f1.f2) = some (r1, r2, r3, r4, r5)) ∧ Aside0 (kq ≤ k1) ∧ Aside0 (Kd.R k46 46 wc w.heap.size (fun k_ => some k_ ≠ (u7 : Value).ownBlock ∧ k_ ≠ gb395 ∧ k_ ≠ gb402) u5 x5_1) ∧ Aside0 (Kd.Q k46 46 wc w.heap.size (fun k_ => some k_ ≠ (u5 : Value).ownBlock ∧ k_ ≠ gb395 ∧ k_ ≠ gb402) u7 x7_1) ∧ Aside0 (wc.heap[gb395]? = some (.cells #[.int .i64 x396000_1, .int .i64 x396001_1, .int .i64 x396002_1] 46 (0, 0))) ∧ Aside0 (wc.heap[gb402]? = some (.cells #[.int .i64 x403000_1, .int .i64 x403001_1, .int .i64 x403002_1] 46 (0, 0))) ∧ Aside0 (wc.heap[gb404]? = some (.cells #[.bool ((rd_T51 l0 x23_1).f0), .int .i64 ((rd_T51 l0 x23_1).f1.f0), .int .i64 ((rd_T51 l0 x23_1).f1.f1), .int .i64 ((rd_T51 l0 x23_1).f1.f2)] 51 (0, 0))) ∧ Aside0 (Below w.heap.size w wc))
       case first =>
        have H := HC16.out
        clear HC16
        replace H := Option.bind_eq_some_iff.mp H
        obtain ⟨t405, A210, H⟩ := H
        replace H : (if t405 = true then (if (rd_T51 l0 x23_1).f0 = true then (impl_CarryRun.j1 k1 x5_1 x7_1 x23_1 l0 (l0.length : Int) x23_1 ((x7_1.length : Int) == 0) x403000_1 x403001_1 x403002_1 ((rd_T51 l0 x23_1).f0) ((rd_T51 l0 x23_1).f1.f0) ((rd_T51 l0 x23_1).f1.f1) ((rd_T51 l0 x23_1).f1.f2)) else (impl_CarryRun.j1 k1 x5_1 x7_1 x23_1 l0 (l0.length : Int) x23_1 false x403000_1 x403001_1 x403002_1 ((rd_T51 l0 x23_1).f0) ((rd_T51 l0 x23_1).f1.f0) ((rd_T51 l0 x23_1).f1.f1) ((rd_T51 l0 x23_1).f1.f2))) else (impl_CarryRun.j1 k1 x5_1 x7_1 x23_1 l0 (l0.length : Int) x23_1 true x403000_1 x403001_1 x403002_1 ((rd_T51 l0 x23_1).f0) ((rd_T51 l0 x23_1).f1.f0) ((rd_T51 l0 x23_1).f1.f1) ((rd_T51 l0 x23_1).f1.f2))) = some (r1, r2, r3, r4, r5) := H
        have A21 := Aside0.mk A210
        clear A210
        by_cases c22 : t405 = true
        ·subst c22
         have H1 : (if (rd_T51 l0 x23_1).f0 = true then (impl_CarryRun.j1 k1 x5_1 x7_1 x23_1 l0 (l0.length : Int) x23_1 ((x7_1.length : Int) == 0) x403000_1 x403001_1 x403002_1 ((rd_T51 l0 x23_1).f0) ((rd_T51 l0 x23_1).f1.f0) ((rd_T51 l0 x23_1).f1.f1) ((rd_T51 l0 x23_1).f1.f2)) else (impl_CarryRun.j1 k1 x5_1 x7_1 x23_1 l0 (l0.length : Int) x23_1 false x403000_1 x403001_1 x403002_1 ((rd_T51 l0 x23_1).f0) ((rd_T51 l0 x23_1).f1.f0) ((rd_T51 l0 x23_1).f1.f1) ((rd_T51 l0 x23_1).f1.f2))) = some (r1, r2, r3, r4, r5) := by rw [if_pos rfl] at H; exact H
         clear H
         have H := H1
         clear H1
         obtain ⟨bq23, hbq23⟩ : ∃ b_ : Bool, b_ = ((rd_T51 l0 x23_1).f0) := ⟨_, rfl⟩
         replace H : (if bq23 = true then (impl_CarryRun.j1 k1 x5_1 x7_1 x23_1 l0 (l0.length : Int) x23_1 ((x7_1.length : Int) == 0) x403000_1 x403001_1 x403002_1 bq23 ((rd_T51 l0 x23_1).f1.f0) ((rd_T51 l0 x23_1).f1.f1) ((rd_T51 l0 x23_1).f1.f2)) else (impl_CarryRun.j1 k1 x5_1 x7_1 x23_1 l0 (l0.length : Int) x23_1 false x403000_1 x403001_1 x403002_1 bq23 ((rd_T51 l0 x23_1).f1.f0) ((rd_T51 l0 x23_1).f1.f1) ((rd_T51 l0 x23_1).f1.f2))) = some (r1, r2, r3, r4, r5) := by rw [← hbq23] at H; exact H
         have Nbq23 := Aside0.mk hbq23
         clear hbq23
         (try rw [← Nbq23.out])
         by_cases c24 : bq23 = true
         ·subst c24
          have H1 : (impl_CarryRun.j1 k1 x5_1 x7_1 x23_1 l0 (l0.length : Int) x23_1 ((x7_1.length : Int) == 0) x403000_1 x403001_1 x403002_1 true ((rd_T51 l0 x23_1).f1.f0) ((rd_T51 l0 x23_1).f1.f1) ((rd_T51 l0 x23_1).f1.f2)) = some (r1, r2, r3, r4, r5) := by rw [if_pos rfl] at H; exact H
          clear H
          have H := H1
          clear H1
          have H' := Aside0.mk H
          clear H; have hnb25 := NB404_395.out; have hnc25 := NB395_404.out; have hnb26 := NB404_402.out; have hnc26 := NB402_404.out; obtain ⟨hcz27_0, hcz27_1, hcz27_2, hcz27_3, hfz27_0, hfz27_1, hfz27_2, hfz27_3⟩ := bz4_ BK404
          go_wp2_with (first | ((with_reducible refine gc_ 64 rfl ?_); refine gl_ 30 Try.func64 #[.agg #[.int .i64 ((rd_T51 l0 x23_1).f1.f0), .int .i64 ((rd_T51 l0 x23_1).f1.f1), .int .i64 ((rd_T51 l0 x23_1).f1.f2)]] ?_; (with_reducible refine (impl_CostOk.calls ((rd_T51 l0 x23_1).f1.f0) ((rd_T51 l0 x23_1).f1.f1) ((rd_T51 l0 x23_1).f1.f2) true _ A21.out).mono ?_); rintro e w28 ⟨rfl, hb⟩; refine ⟨_, rfl, ?_⟩; replace HO_5 := Aside0.mk (Kd.R_below (by (with_reducible repeat (first | apply Kd.R_alloc | apply Kd.R_drewN | apply Kd.R_drew)); exact (Kd.R_mono (Kd.R_far (p := ⟨gb404, 3, none⟩) (Kd.R_far (p := ⟨gb404, 2, none⟩) (Kd.R_far (p := ⟨gb404, 1, none⟩) (Kd.R_far (p := ⟨gb404, 0, none⟩) (Kd.R_types HO_5.out BK404.out (by decide)) (fun _ hk => by first | exact hk.2 | grind) (.bool (true))) (fun _ hk => by first | exact hk.2 | grind) (.int .i64 ((rd_T51 l0 x23_1).f1.f0))) (fun _ hk => by first | exact hk.2 | grind) (.int .i64 ((rd_T51 l0 x23_1).f1.f1))) (fun _ hk => by first | exact hk.2 | grind) (.int .i64 ((rd_T51 l0 x23_1).f1.f2))) (fun _ h_ => h_.1))) hb); replace HO_7 := Aside0.mk (Kd.Q_below (by (with_reducible repeat (first | apply Kd.Q_alloc | apply Kd.Q_drewN | apply Kd.Q_drew)); exact (Kd.Q_mono (Kd.Q_far (p := ⟨gb404, 3, none⟩) (Kd.Q_far (p := ⟨gb404, 2, none⟩) (Kd.Q_far (p := ⟨gb404, 1, none⟩) (Kd.Q_far (p := ⟨gb404, 0, none⟩) (Kd.Q_types HO_7.out BK404.out (by decide)) (fun _ hk => by first | exact hk.2 | grind) (.bool (true))) (fun _ hk => by first | exact hk.2 | grind) (.int .i64 ((rd_T51 l0 x23_1).f1.f0))) (fun _ hk => by first | exact hk.2 | grind) (.int .i64 ((rd_T51 l0 x23_1).f1.f1))) (fun _ hk => by first | exact hk.2 | grind) (.int .i64 ((rd_T51 l0 x23_1).f1.f2))) (fun _ h_ => h_.1))) hb); replace BK395 := bm_ BK395 hb; replace BK402 := bm_ BK402 hb; replace BK404 := Aside0.mk (blk_below (g := gb404) (o := .cells #[.bool true, .int .i64 ((rd_T51 l0 x23_1).f1.f0), .int .i64 ((rd_T51 l0 x23_1).f1.f1), .int .i64 ((rd_T51 l0 x23_1).f1.f2)] 51 (0, 0)) (by (with_reducible repeat (first | refine blk_drewN ?_ _ | refine blk_drew ?_ | refine blk_alloc ?_ _)); refine blk_put (cs := #[.bool (true), .int .i64 ((rd_T51 l0 x23_1).f1.f0), .int .i64 ((rd_T51 l0 x23_1).f1.f1), .int .i64 0]) ?_ 3 _ rfl; (with_reducible repeat (first | refine blk_drewN ?_ _ | refine blk_drew ?_ | refine blk_alloc ?_ _)); refine blk_put (cs := #[.bool (true), .int .i64 ((rd_T51 l0 x23_1).f1.f0), .int .i64 0, .int .i64 0]) ?_ 2 _ rfl; (with_reducible repeat (first | refine blk_drewN ?_ _ | refine blk_drew ?_ | refine blk_alloc ?_ _)); refine blk_put (cs := #[.bool (true), .int .i64 0, .int .i64 0, .int .i64 0]) ?_ 1 _ rfl; (with_reducible repeat (first | refine blk_drewN ?_ _ | refine blk_drew ?_ | refine blk_alloc ?_ _)); refine blk_put (cs := #[.bool false, .int .i64 0, .int .i64 0, .int .i64 0]) ?_ 0 _ rfl; exact bk_ BK404) hb); replace HB := Aside0.mk (below_step (bf_ HB) hb); (try clear hb); (try clear hb2); (try clear hk); (try clear hi); have hcz29_0 := bc_ BK404 0 (.bool true) rfl; have hcz29_1 : w28.cell? ⟨gb404, 1, none⟩ = some (.int .i64 ((rd_T51 l0 x23_1).f1.f0)) := (blk_cell BK404.out 1).trans rfl; have hcz29_2 : w28.cell? ⟨gb404, 2, none⟩ = some (.int .i64 ((rd_T51 l0 x23_1).f1.f1)) := (blk_cell BK404.out 2).trans rfl; have hcz29_3 : w28.cell? ⟨gb404, 3, none⟩ = some (.int .i64 ((rd_T51 l0 x23_1).f1.f2)) := (blk_cell BK404.out 3).trans rfl; have hfz29_0 := blk_frozen BK404.out 0; have hfz29_1 := blk_frozen BK404.out 1; have hfz29_2 := blk_frozen BK404.out 2; have hfz29_3 := blk_frozen BK404.out 3; obtain ⟨Ao30, co30, eo30, _⟩ := Kd.Q_slice HO_7.out; subst eo30))
          go_meet
          case rel => (try rw [← Nbq23.out]); exact ⟨_, (((x7_1.length : Int) == 0)), (by first | rfl | (simp; done) | (simp [*]; done)), H', ⟨by have := HK1.out; first | omega | exact Nat.le_refl _⟩, ⟨kr_ HO_5⟩, ⟨by (with_reducible repeat (first | apply Kd.Q_alloc | apply Kd.Q_drewN | apply Kd.Q_drew)); exact HO_7.out⟩, ⟨bk_ BK395⟩, ⟨bk_ BK402⟩, ⟨bk_ BK404⟩, ⟨bf_ HB⟩⟩
         ·replace c24 := Bool.eq_false_iff.mpr c24
          subst c24
          have H1 : (impl_CarryRun.j1 k1 x5_1 x7_1 x23_1 l0 (l0.length : Int) x23_1 false x403000_1 x403001_1 x403002_1 false ((rd_T51 l0 x23_1).f1.f0) ((rd_T51 l0 x23_1).f1.f1) ((rd_T51 l0 x23_1).f1.f2)) = some (r1, r2, r3, r4, r5) := by rw [if_neg (show ¬ (false = true) by decide)] at H; exact H
          clear H
          have H := H1
          clear H1
          have H' := Aside0.mk H
          clear H; have hnb31 := NB404_395.out; have hnc31 := NB395_404.out; have hnb32 := NB404_402.out; have hnc32 := NB402_404.out; obtain ⟨hcz33_0, hcz33_1, hcz33_2, hcz33_3, hfz33_0, hfz33_1, hfz33_2, hfz33_3⟩ := bz4_ BK404
          go_wp2_with (first | ((with_reducible refine gc_ 64 rfl ?_); refine gl_ 30 Try.func64 #[.agg #[.int .i64 ((rd_T51 l0 x23_1).f1.f0), .int .i64 ((rd_T51 l0 x23_1).f1.f1), .int .i64 ((rd_T51 l0 x23_1).f1.f2)]] ?_; (with_reducible refine (impl_CostOk.calls ((rd_T51 l0 x23_1).f1.f0) ((rd_T51 l0 x23_1).f1.f1) ((rd_T51 l0 x23_1).f1.f2) true _ A21.out).mono ?_); rintro e w34 ⟨rfl, hb⟩; refine ⟨_, rfl, ?_⟩; replace HO_5 := Aside0.mk (Kd.R_below (by (with_reducible repeat (first | apply Kd.R_alloc | apply Kd.R_drewN | apply Kd.R_drew)); exact (Kd.R_mono (Kd.R_far (p := ⟨gb404, 3, none⟩) (Kd.R_far (p := ⟨gb404, 2, none⟩) (Kd.R_far (p := ⟨gb404, 1, none⟩) (Kd.R_far (p := ⟨gb404, 0, none⟩) (Kd.R_types HO_5.out BK404.out (by decide)) (fun _ hk => by first | exact hk.2 | grind) (.bool (false))) (fun _ hk => by first | exact hk.2 | grind) (.int .i64 ((rd_T51 l0 x23_1).f1.f0))) (fun _ hk => by first | exact hk.2 | grind) (.int .i64 ((rd_T51 l0 x23_1).f1.f1))) (fun _ hk => by first | exact hk.2 | grind) (.int .i64 ((rd_T51 l0 x23_1).f1.f2))) (fun _ h_ => h_.1))) hb); replace HO_7 := Aside0.mk (Kd.Q_below (by (with_reducible repeat (first | apply Kd.Q_alloc | apply Kd.Q_drewN | apply Kd.Q_drew)); exact (Kd.Q_mono (Kd.Q_far (p := ⟨gb404, 3, none⟩) (Kd.Q_far (p := ⟨gb404, 2, none⟩) (Kd.Q_far (p := ⟨gb404, 1, none⟩) (Kd.Q_far (p := ⟨gb404, 0, none⟩) (Kd.Q_types HO_7.out BK404.out (by decide)) (fun _ hk => by first | exact hk.2 | grind) (.bool (false))) (fun _ hk => by first | exact hk.2 | grind) (.int .i64 ((rd_T51 l0 x23_1).f1.f0))) (fun _ hk => by first | exact hk.2 | grind) (.int .i64 ((rd_T51 l0 x23_1).f1.f1))) (fun _ hk => by first | exact hk.2 | grind) (.int .i64 ((rd_T51 l0 x23_1).f1.f2))) (fun _ h_ => h_.1))) hb); replace BK395 := bm_ BK395 hb; replace BK402 := bm_ BK402 hb; replace BK404 := Aside0.mk (blk_below (g := gb404) (o := .cells #[.bool false, .int .i64 ((rd_T51 l0 x23_1).f1.f0), .int .i64 ((rd_T51 l0 x23_1).f1.f1), .int .i64 ((rd_T51 l0 x23_1).f1.f2)] 51 (0, 0)) (by (with_reducible repeat (first | refine blk_drewN ?_ _ | refine blk_drew ?_ | refine blk_alloc ?_ _)); refine blk_put (cs := #[.bool (false), .int .i64 ((rd_T51 l0 x23_1).f1.f0), .int .i64 ((rd_T51 l0 x23_1).f1.f1), .int .i64 0]) ?_ 3 _ rfl; (with_reducible repeat (first | refine blk_drewN ?_ _ | refine blk_drew ?_ | refine blk_alloc ?_ _)); refine blk_put (cs := #[.bool (false), .int .i64 ((rd_T51 l0 x23_1).f1.f0), .int .i64 0, .int .i64 0]) ?_ 2 _ rfl; (with_reducible repeat (first | refine blk_drewN ?_ _ | refine blk_drew ?_ | refine blk_alloc ?_ _)); refine blk_put (cs := #[.bool (false), .int .i64 0, .int .i64 0, .int .i64 0]) ?_ 1 _ rfl; (with_reducible repeat (first | refine blk_drewN ?_ _ | refine blk_drew ?_ | refine blk_alloc ?_ _)); refine blk_put (cs := #[.bool false, .int .i64 0, .int .i64 0, .int .i64 0]) ?_ 0 _ rfl; exact bk_ BK404) hb); replace HB := Aside0.mk (below_step (bf_ HB) hb); (try clear hb); (try clear hb2); (try clear hk); (try clear hi); have hcz35_0 := bc_ BK404 0 (.bool false) rfl; have hcz35_1 : w34.cell? ⟨gb404, 1, none⟩ = some (.int .i64 ((rd_T51 l0 x23_1).f1.f0)) := (blk_cell BK404.out 1).trans rfl; have hcz35_2 : w34.cell? ⟨gb404, 2, none⟩ = some (.int .i64 ((rd_T51 l0 x23_1).f1.f1)) := (blk_cell BK404.out 2).trans rfl; have hcz35_3 : w34.cell? ⟨gb404, 3, none⟩ = some (.int .i64 ((rd_T51 l0 x23_1).f1.f2)) := (blk_cell BK404.out 3).trans rfl; have hfz35_0 := blk_frozen BK404.out 0; have hfz35_1 := blk_frozen BK404.out 1; have hfz35_2 := blk_frozen BK404.out 2; have hfz35_3 := blk_frozen BK404.out 3))
          go_meet
          case rel => (try rw [← Nbq23.out]); exact ⟨_, (false), (by first | rfl | (simp; done) | (simp [*]; done)), H', ⟨by have := HK1.out; first | omega | exact Nat.le_refl _⟩, ⟨kr_ HO_5⟩, ⟨by (with_reducible repeat (first | apply Kd.Q_alloc | apply Kd.Q_drewN | apply Kd.Q_drew)); exact HO_7.out⟩, ⟨bk_ BK395⟩, ⟨bk_ BK402⟩, ⟨bk_ BK404⟩, ⟨bf_ HB⟩⟩
        ·replace c22 := Bool.eq_false_iff.mpr c22
         subst c22
         have H1 : (impl_CarryRun.j1 k1 x5_1 x7_1 x23_1 l0 (l0.length : Int) x23_1 true x403000_1 x403001_1 x403002_1 ((rd_T51 l0 x23_1).f0) ((rd_T51 l0 x23_1).f1.f0) ((rd_T51 l0 x23_1).f1.f1) ((rd_T51 l0 x23_1).f1.f2)) = some (r1, r2, r3, r4, r5) := by rw [if_neg (show ¬ (false = true) by decide)] at H; exact H
         clear H
         have H := H1
         clear H1
         have H' := Aside0.mk H
         clear H; have hnb36 := NB404_395.out; have hnc36 := NB395_404.out; have hnb37 := NB404_402.out; have hnc37 := NB402_404.out; obtain ⟨hcz38_0, hcz38_1, hcz38_2, hcz38_3, hfz38_0, hfz38_1, hfz38_2, hfz38_3⟩ := bz4_ BK404
         go_wp2_with (first | ((with_reducible refine gc_ 64 rfl ?_); refine gl_ 30 Try.func64 #[.agg #[.int .i64 ((rd_T51 l0 x23_1).f1.f0), .int .i64 ((rd_T51 l0 x23_1).f1.f1), .int .i64 ((rd_T51 l0 x23_1).f1.f2)]] ?_; (with_reducible refine (impl_CostOk.calls ((rd_T51 l0 x23_1).f1.f0) ((rd_T51 l0 x23_1).f1.f1) ((rd_T51 l0 x23_1).f1.f2) false _ A21.out).mono ?_); rintro e w39 ⟨rfl, hb⟩; refine ⟨_, rfl, ?_⟩; replace HO_5 := Aside0.mk (Kd.R_below (by (with_reducible repeat (first | apply Kd.R_alloc | apply Kd.R_drewN | apply Kd.R_drew)); exact (Kd.R_mono (Kd.R_far (p := ⟨gb404, 3, none⟩) (Kd.R_far (p := ⟨gb404, 2, none⟩) (Kd.R_far (p := ⟨gb404, 1, none⟩) (Kd.R_far (p := ⟨gb404, 0, none⟩) (Kd.R_types HO_5.out BK404.out (by decide)) (fun _ hk => by first | exact hk.2 | grind) (.bool ((rd_T51 l0 x23_1).f0))) (fun _ hk => by first | exact hk.2 | grind) (.int .i64 ((rd_T51 l0 x23_1).f1.f0))) (fun _ hk => by first | exact hk.2 | grind) (.int .i64 ((rd_T51 l0 x23_1).f1.f1))) (fun _ hk => by first | exact hk.2 | grind) (.int .i64 ((rd_T51 l0 x23_1).f1.f2))) (fun _ h_ => h_.1))) hb); replace HO_7 := Aside0.mk (Kd.Q_below (by (with_reducible repeat (first | apply Kd.Q_alloc | apply Kd.Q_drewN | apply Kd.Q_drew)); exact (Kd.Q_mono (Kd.Q_far (p := ⟨gb404, 3, none⟩) (Kd.Q_far (p := ⟨gb404, 2, none⟩) (Kd.Q_far (p := ⟨gb404, 1, none⟩) (Kd.Q_far (p := ⟨gb404, 0, none⟩) (Kd.Q_types HO_7.out BK404.out (by decide)) (fun _ hk => by first | exact hk.2 | grind) (.bool ((rd_T51 l0 x23_1).f0))) (fun _ hk => by first | exact hk.2 | grind) (.int .i64 ((rd_T51 l0 x23_1).f1.f0))) (fun _ hk => by first | exact hk.2 | grind) (.int .i64 ((rd_T51 l0 x23_1).f1.f1))) (fun _ hk => by first | exact hk.2 | grind) (.int .i64 ((rd_T51 l0 x23_1).f1.f2))) (fun _ h_ => h_.1))) hb); replace BK395 := bm_ BK395 hb; replace BK402 := bm_ BK402 hb; replace BK404 := Aside0.mk (blk_below (g := gb404) (o := .cells #[.bool ((rd_T51 l0 x23_1).f0), .int .i64 ((rd_T51 l0 x23_1).f1.f0), .int .i64 ((rd_T51 l0 x23_1).f1.f1), .int .i64 ((rd_T51 l0 x23_1).f1.f2)] 51 (0, 0)) (by (with_reducible repeat (first | refine blk_drewN ?_ _ | refine blk_drew ?_ | refine blk_alloc ?_ _)); refine blk_put (cs := #[.bool ((rd_T51 l0 x23_1).f0), .int .i64 ((rd_T51 l0 x23_1).f1.f0), .int .i64 ((rd_T51 l0 x23_1).f1.f1), .int .i64 0]) ?_ 3 _ rfl; (with_reducible repeat (first | refine blk_drewN ?_ _ | refine blk_drew ?_ | refine blk_alloc ?_ _)); refine blk_put (cs := #[.bool ((rd_T51 l0 x23_1).f0), .int .i64 ((rd_T51 l0 x23_1).f1.f0), .int .i64 0, .int .i64 0]) ?_ 2 _ rfl; (with_reducible repeat (first | refine blk_drewN ?_ _ | refine blk_drew ?_ | refine blk_alloc ?_ _)); refine blk_put (cs := #[.bool ((rd_T51 l0 x23_1).f0), .int .i64 0, .int .i64 0, .int .i64 0]) ?_ 1 _ rfl; (with_reducible repeat (first | refine blk_drewN ?_ _ | refine blk_drew ?_ | refine blk_alloc ?_ _)); refine blk_put (cs := #[.bool false, .int .i64 0, .int .i64 0, .int .i64 0]) ?_ 0 _ rfl; exact bk_ BK404) hb); replace HB := Aside0.mk (below_step (bf_ HB) hb); (try clear hb); (try clear hb2); (try clear hk); (try clear hi)))
         go_meet
         case rel => exact ⟨_, (true), (by first | rfl | (simp; done) | (simp [*]; done)), H', ⟨by have := HK1.out; first | omega | exact Nat.le_refl _⟩, ⟨kr_ HO_5⟩, ⟨by (with_reducible repeat (first | apply Kd.Q_alloc | apply Kd.Q_drewN | apply Kd.Q_drew)); exact HO_7.out⟩, ⟨bk_ BK395⟩, ⟨bk_ BK402⟩, ⟨bk_ BK404⟩, ⟨bf_ HB⟩⟩
       case rest =>
        clear HC16; (try clear c1); (try clear c2); (try clear c2b0); (try clear c2b1); (try clear p2 p2); (try clear q2); (try clear c3); (try clear p4); (try clear q4); (try clear hx4); (try clear c6); (try clear c11); (try clear c13); (try clear c13b0); (try clear c14); (try clear c14b0); (try clear c15); (try clear c15b0); (try clear c18); (try clear c19); (try clear c22); (try clear q23); (try clear c24); (try clear c25); (try clear c26); (try clear c31); (try clear c32); (try clear c36); (try clear c37); (try clear hcz12_0 hcz12_1 hcz12_2 hfz12_0 hfz12_1 hfz12_2); (try clear hcz20_0 hcz20_1 hcz20_2 hcz20_3 hfz20_0 hfz20_1 hfz20_2 hfz20_3); (try clear hcz27_0 hcz27_1 hcz27_2 hcz27_3 hfz27_0 hfz27_1 hfz27_2 hfz27_3); (try clear hcz29_0 hcz29_1 hcz29_2 hcz29_3 hfz29_0 hfz29_1 hfz29_2 hfz29_3); (try clear hcz33_0 hcz33_1 hcz33_2 hcz33_3 hfz33_0 hfz33_1 hfz33_2 hfz33_3); (try clear hcz35_0 hcz35_1 hcz35_2 hcz35_3 hfz35_0 hfz35_1 hfz35_2 hfz35_3); (try clear hcz38_0 hcz38_1 hcz38_2 hcz38_3 hfz38_0 hfz38_1 hfz38_2 hfz38_3); (try clear hcz4_0 hcz4_1 hcz4_2 hfz4_0 hfz4_1 hfz4_2); (try clear hx403_0); (try clear hx403_1); (try clear hx403_2); (try clear hx403_3); (try clear p403); (try clear q403)
        obtain ⟨kq, x40_15, rfl, HA, HJ15, HO_5, HO_7, BK395, BK402, BK404, HB⟩ := hcut
        cases kq with
        | zero => exact absurd HA.out (by simp [impl_CarryRun.j1])
        | succ kj15 =>
         have H := HA.out
         clear HA
         simp only [impl_CarryRun.j1] at H
         by_cases c40 : x40_15 = true
         ·subst c40
          have H1 : (some (([] : List (S46)), 0, 0, 0, wrap64 (x23_1 + 1))) = some (r1, r2, r3, r4, r5) := by rw [if_pos rfl] at H; exact H
          clear H
          have H := H1
          clear H1
          simp only [Option.some.injEq, Prod.mk.injEq] at H
          obtain ⟨rfl, rfl, rfl, rfl, rfl⟩ := H
          have hnb41 := NB395_402.out; have hnc41 := NB402_395.out; have hnb42 := NB395_404.out; have hnc42 := NB404_395.out; obtain ⟨hcz43_0, hcz43_1, hcz43_2, hfz43_0, hfz43_1, hfz43_2⟩ := bz3_ BK395
          go_wp2
          refine bodyPost_ret (results_list (rs := [.tmp 2, .cell 3 46, .tmp 4]) rfl (by simp) (.tmp (.cell gb395 46 #[.int .i64 0, .int .i64 0, .int .i64 0] (0, 0) _ rfl (by (with_reducible repeat (first | refine blk_drewN ?_ _ | refine blk_drew ?_ | refine blk_alloc ?_ _)); refine blk_put (cs := #[.int .i64 0, .int .i64 0, .int .i64 x396002_1]) ?_ 2 _ rfl; (with_reducible repeat (first | refine blk_drewN ?_ _ | refine blk_drew ?_ | refine blk_alloc ?_ _)); refine blk_put (cs := #[.int .i64 0, .int .i64 x396001_1, .int .i64 x396002_1]) ?_ 1 _ rfl; (with_reducible repeat (first | refine blk_drewN ?_ _ | refine blk_drew ?_ | refine blk_alloc ?_ _)); refine blk_put (cs := #[.int .i64 x396000_1, .int .i64 x396001_1, .int .i64 x396002_1]) ?_ 0 _ rfl; exact bk_ BK395) Try.underlying46 rfl (by kernel_rfl) (.tmp .nil)))) rfl ?_
          exact ⟨_, by first | rfl | (simp [errW_none, errW_some] <;> rfl) | (simp [*, errW_none, errW_some] <;> rfl), by first | exact Kd.R_nil _ _ _ _ _ | exact Kd.N_nil _ _ _ _ _ | exact Kd.V_nil _ _ _ _ _ | exact Kd.Q_nil _ _ _ _ _ | exact Kd.S_nil _ _ _ _ _, bf_ HB⟩
         ·replace c40 := Bool.eq_false_iff.mpr c40
          subst c40
          have H1 : (if ((rd_T51 l0 x23_1).f0) = true then (if 0 < (x7_1.length : Int) then ((impl_Settle.f kj15 x403000_1 x403001_1 x403002_1 ((rd_T46 x7_1 0).f0) ((rd_T46 x7_1 0).f1) ((rd_T46 x7_1 0).f2) ((rd_T51 l0 x23_1).f1.f0) ((rd_T51 l0 x23_1).f1.f1) ((rd_T51 l0 x23_1).f1.f2)).bind fun bt407 => (if bt407.2.2.2 = true then (if 1 ≤ (x7_1.length : Int) then (impl_CarryRun.l0 kj15 x5_1 (x7_1.drop (1 : Int).toNat) l0 (l0.length : Int) (wrap64 (x23_1 + 1)) bt407.1 bt407.2.1 bt407.2.2.1) else (none)) else (some (([] : List (S46)), 0, 0, 0, wrap64 (x23_1 + 1))))) else (none)) else ((impl_Charge.f kj15 ((rd_T51 l0 x23_1).f1.f0) ((rd_T51 l0 x23_1).f1.f1) ((rd_T51 l0 x23_1).f1.f2) x403000_1 x403001_1 x403002_1).bind fun bt415 => ((some (([(⟨bt415.1, bt415.2.1, bt415.2.2.1⟩ : S46)] : List (S46)) : List (S46))).bind fun y423 => (if x5_1.length + y423.length < 5864062014805 then ((some (([(⟨((rd_T51 l0 x23_1).f1.f0), ((rd_T51 l0 x23_1).f1.f1), ((rd_T51 l0 x23_1).f1.f2)⟩ : S46)] : List (S46)) : List (S46))).bind fun y429 => (if x7_1.length + y429.length < 5864062014805 then (impl_CarryRun.l0 kj15 (x5_1 ++ y423) (x7_1 ++ y429) l0 (l0.length : Int) (wrap64 (x23_1 + 1)) bt415.2.2.2.1 bt415.2.2.2.2.1 bt415.2.2.2.2.2) else (none))) else (none))))) = some (r1, r2, r3, r4, r5) := by rw [if_neg (show ¬ (false = true) by decide)] at H; exact H
          clear H
          have H := H1
          clear H1
          by_cases c44 : ((rd_T51 l0 x23_1).f0) = true
          ·rw [if_pos c44] at H
           have c44b0 : ((rd_T51 l0 x23_1).f0) = true := c44
           clear c44
           by_cases c45 : 0 < (x7_1.length : Int)
           ·rw [if_pos c45] at H
            have c45b0 : decide (0 < (x7_1.length : Int)) = true := decide_eq_true c45
            have c45b1 : decide (0 < x7_1.length) = true := decide_eq_true (by omega)
            clear c45
            replace H := Option.bind_eq_some_iff.mp H
            obtain ⟨⟨t407, t408, t409, t410⟩, A460, H⟩ := H
            replace H : (if t410 = true then (if 1 ≤ (x7_1.length : Int) then (impl_CarryRun.l0 kj15 x5_1 (x7_1.drop (1 : Int).toNat) l0 (l0.length : Int) (wrap64 (x23_1 + 1)) t407 t408 t409) else (none)) else (some (([] : List (S46)), 0, 0, 0, wrap64 (x23_1 + 1)))) = some (r1, r2, r3, r4, r5) := H
            have A46 := Aside0.mk A460
            clear A460
            by_cases c47 : t410 = true
            ·subst c47
             have H1 : (if 1 ≤ (x7_1.length : Int) then (impl_CarryRun.l0 kj15 x5_1 (x7_1.drop (1 : Int).toNat) l0 (l0.length : Int) (wrap64 (x23_1 + 1)) t407 t408 t409) else (none)) = some (r1, r2, r3, r4, r5) := by rw [if_pos rfl] at H; exact H
             clear H
             have H := H1
             clear H1
             by_cases c48 : 1 ≤ (x7_1.length : Int)
             ·rw [if_pos c48] at H
              have c48b0 := eq_true c48
              have c48b1 : decide (1 ≤ (x7_1.length : Int)) = true := decide_eq_true c48
              clear c48
              obtain ⟨y412, hy412⟩ : ∃ y_ : List (S46), y_ = (x7_1.drop (1 : Int).toNat) := ⟨_, rfl⟩
              replace H : (impl_CarryRun.l0 kj15 x5_1 y412 l0 (l0.length : Int) (wrap64 (x23_1 + 1)) t407 t408 t409) = some (r1, r2, r3, r4, r5) := by first | (rw [hy412]; with_reducible exact H) | (have H2_ := (Option.bind_some _ _).symm.trans H; rw [hy412]; with_reducible exact H2_) | (have H2_ := (Option.bind_some _ _).symm.trans H; with_reducible exact H2_) | with_reducible exact H | (rw [hy412]; exact H) | exact H
              have Ny412 := Aside0.mk hy412
              clear hy412
              have H' := Aside0.mk H
              clear H; have hnb49 := NB404_395.out; have hnc49 := NB395_404.out; have hnb50 := NB404_402.out; have hnc50 := NB402_404.out
              have hcz51_0 : wc.cell? ⟨gb404, 0, none⟩ = some (.bool ((rd_T51 l0 x23_1).f0)) := (blk_cell BK404.out 0).trans rfl
              have hcz51_1 : wc.cell? ⟨gb404, 1, none⟩ = some (.int .i64 ((rd_T51 l0 x23_1).f1.f0)) := (blk_cell BK404.out 1).trans rfl
              have hcz51_2 : wc.cell? ⟨gb404, 2, none⟩ = some (.int .i64 ((rd_T51 l0 x23_1).f1.f1)) := (blk_cell BK404.out 2).trans rfl
              have hcz51_3 : wc.cell? ⟨gb404, 3, none⟩ = some (.int .i64 ((rd_T51 l0 x23_1).f1.f2)) := (blk_cell BK404.out 3).trans rfl
              have hfz51_0 := blk_frozen BK404.out 0; have hfz51_1 := blk_frozen BK404.out 1; have hfz51_2 := blk_frozen BK404.out 2; have hfz51_3 := blk_frozen BK404.out 3
              try go_wp2
              replace HO_5 := Aside0.mk (Kd.R_drew HO_5.out); replace HO_7 := Aside0.mk (Kd.Q_drew HO_7.out); replace BK395 := Aside0.mk (blk_drew BK395.out); replace BK402 := Aside0.mk (blk_drew BK402.out); replace BK404 := Aside0.mk (blk_drew BK404.out); replace HB := Aside0.mk (below_drew1 HB.out)
              obtain ⟨Ao53, co53, eo53, _⟩ := Kd.Q_slice HO_7.out
              (first | subst eo53 | (injection eo53 with f1_ f2_ f3_; have f4_ := f1_.symm; have f5_ := f3_.symm; clear f1_ f2_ f3_; subst f4_; subst f5_))
              have p406 : 0 ≤ (0 : Int) := (by omega)
              have q406 : 0 < (x7_1.length : Int) := od_
              obtain ⟨ad406, e406, hx406_0, hx406_1, hx406_2⟩ := at_T46 (Kd.Q_reads' HO_7.out).2.2 0 p406 q406
              cases e406
              have qi406 : (0 < x7_1.length) = True := eq_true (by omega)
              (try rw [show ((0 : Int)).toNat = 0 from rfl] at hx406_0)
              (try rw [show 0 * 3 = 0 from rfl] at hx406_0)
              (try rw [Addr.add_zero'] at hx406_0)
              (try rw [show ((0 : Int)).toNat = 0 from rfl] at hx406_1)
              (try rw [show 0 * 3 = 0 from rfl] at hx406_1)
              (try rw [Addr.add_zero'] at hx406_1)
              (try rw [show ((0 : Int)).toNat = 0 from rfl] at hx406_2)
              (try rw [show 0 * 3 = 0 from rfl] at hx406_2)
              (try rw [Addr.add_zero'] at hx406_2)
              replace p406 := eq_true p406
              replace q406 := eq_true q406
              refine start_ (n := 13) (S := fun w' => cw_ w' gb402 0 (.int .i64 x403000_1) ∧ cw_ w' gb402 1 (.int .i64 x403001_1) ∧ cw_ w' gb402 2 (.int .i64 x403002_1) ∧ cw_ w' gb404 0 (.bool ((rd_T51 l0 x23_1).f0)) ∧ cw_ w' gb404 1 (.int .i64 ((rd_T51 l0 x23_1).f1.f0)) ∧ cw_ w' gb404 2 (.int .i64 ((rd_T51 l0 x23_1).f1.f1)) ∧ cw_ w' gb404 3 (.int .i64 ((rd_T51 l0 x23_1).f1.f2)) ∧ w'.cell? ad406 = some (.int .i64 ((rd_T46 x7_1 0).f0)) ∧ w'.cell? ⟨ad406.block, ad406.off + 1, none⟩ = some (.int .i64 ((rd_T46 x7_1 0).f1)) ∧ w'.cell? ⟨ad406.block, ad406.off + 2, none⟩ = some (.int .i64 ((rd_T46 x7_1 0).f2))) (ds := []) (bs 13 0) (by kernel_rfl) rfl rfl ⟨bt_ BK402 0, bt_ BK402 1, bt_ BK402 2, bt_ BK404 0, bt_ BK404 1, bt_ BK404 2, bt_ BK404 3, hx406_0, hx406_1, hx406_2⟩ (fun hHeld => ?_); refine with_tabW impl_CarryRun.tab12 impl_CarryRun.bits12 (fun HT_ HW_ => ?_)
              generalize wc.drew = w52 at HO_5 HO_7 BK395 BK402 BK404 HB hx406_0 hx406_1 hx406_2 hHeld ⊢
              refine ps_ 1 66 (bm 13 2) HT_ ?_
              refine ps_ 2 67 (bm 13 6) HT_ ?_
              refine ps_ 4 69 (bm 13 22) HT_ ?_
              refine tk_ 0 65 (bm 13 23) HT_ HW_ hHeld ?_
              refine tk_ 3 68 (bs 13 5) HT_ HW_ hHeld ?_
              refine tk_ 5 70 (bs 13 6) HT_ HW_ hHeld ?_
              refine join_ (σ := Nat) 2 (bs 13 11) (fun s_ => [(71, .tuple #[.agg #[.int .i64 t407, .int .i64 t408, .int .i64 t409], .bool true]), (12, .pointer (some ⟨s_, 0, none⟩)), (64, .tuple #[.agg #[.int .i64 t407, .int .i64 t408, .int .i64 t409], .bool true]), (72, .agg #[.int .i64 t407, .int .i64 t408, .int .i64 t409]), (73, .bool true)]) (fun s_ w' => (w'.cell? ⟨gb402, 0, none⟩ = some (.int .i64 x403000_1) ∧ w'.cell? ⟨gb402, 1, none⟩ = some (.int .i64 x403001_1) ∧ w'.cell? ⟨gb402, 2, none⟩ = some (.int .i64 x403002_1) ∧ w'.cell? ⟨gb404, 0, none⟩ = some (.bool ((rd_T51 l0 x23_1).f0)) ∧ w'.cell? ⟨gb404, 1, none⟩ = some (.int .i64 ((rd_T51 l0 x23_1).f1.f0)) ∧ w'.cell? ⟨gb404, 2, none⟩ = some (.int .i64 ((rd_T51 l0 x23_1).f1.f1)) ∧ w'.cell? ⟨gb404, 3, none⟩ = some (.int .i64 ((rd_T51 l0 x23_1).f1.f2)) ∧ w'.cell? ad406 = some (.int .i64 ((rd_T46 x7_1 0).f0)) ∧ w'.cell? ⟨ad406.block, ad406.off + 1, none⟩ = some (.int .i64 ((rd_T46 x7_1 0).f1)) ∧ w'.cell? ⟨ad406.block, ad406.off + 2, none⟩ = some (.int .i64 ((rd_T46 x7_1 0).f2))) ∧ (Kd.R k46 46 w' w.heap.size (fun k_ => some k_ ≠ (.slice (some ad406) x7_1.length co53 : Value).ownBlock ∧ k_ ≠ gb395 ∧ k_ ≠ gb402 ∧ k_ ≠ s_) u5 x5_1) ∧ (Kd.Q k46 46 w' w.heap.size (fun k_ => some k_ ≠ (u5 : Value).ownBlock ∧ k_ ≠ gb395 ∧ k_ ≠ gb402 ∧ k_ ≠ s_) (.slice (some ad406) x7_1.length co53) x7_1) ∧ (w'.heap[gb395]? = some (.cells #[.int .i64 x396000_1, .int .i64 x396001_1, .int .i64 x396002_1] 46 (0, 0))) ∧ (w'.heap[gb402]? = some (.cells #[.int .i64 x403000_1, .int .i64 x403001_1, .int .i64 x403002_1] 46 (0, 0))) ∧ (w'.heap[gb404]? = some (.cells #[.bool ((rd_T51 l0 x23_1).f0), .int .i64 ((rd_T51 l0 x23_1).f1.f0), .int .i64 ((rd_T51 l0 x23_1).f1.f1), .int .i64 ((rd_T51 l0 x23_1).f1.f2)] 51 (0, 0))) ∧ (w'.heap[s_]? = some (.cells #[.int .i64 0, .int .i64 0, .int .i64 0] 46 (0, 0))) ∧ (w.heap.size ≤ s_) ∧ (w.heap.size ≤ s_) ∧ (gb395 ≠ s_) ∧ (s_ ≠ gb395) ∧ (gb402 ≠ s_) ∧ (s_ ≠ gb402) ∧ (gb404 ≠ s_) ∧ (s_ ≠ gb404) ∧ (Below w.heap.size w w')) ?_ ?_
              rotate_left
              ·intro hCont
               refine two_ (i := 6) (j := 10) (Ni := some 71) (Nj := some 12) (bs 13 7) (bm 13 1087) rfl rfl rfl rfl (two_of HT_.out (by kernel_rfl)) (by decide) (by decide) (fun K hK => ?_) (fun K hK => ?_)
               ·skip
                refine gs_ Try.func66 #[.agg #[.int .i64 x403000_1, .int .i64 x403001_1, .int .i64 x403002_1], .agg #[.int .i64 ((rd_T46 x7_1 0).f0), .int .i64 ((rd_T46 x7_1 0).f1), .int .i64 ((rd_T46 x7_1 0).f2)], .agg #[.int .i64 ((rd_T51 l0 x23_1).f1.f0), .int .i64 ((rd_T51 l0 x23_1).f1.f1), .int .i64 ((rd_T51 l0 x23_1).f1.f2)]] ?_
                with_reducible refine (impl_Settle.calls kj15 x403000_1 x403001_1 x403002_1 ((rd_T46 x7_1 0).f0) ((rd_T46 x7_1 0).f1) ((rd_T46 x7_1 0).f2) ((rd_T51 l0 x23_1).f1.f0) ((rd_T51 l0 x23_1).f1.f1) ((rd_T51 l0 x23_1).f1.f2) t407 t408 t409 true _ A46.out).mono ?_
                rintro e w54 ⟨rfl, hb⟩
                have HS7_ := hc_ hb hHeld.2.2.2.2.2.2.2.1
                have HS8_ := hc_ hb hHeld.2.2.2.2.2.2.2.2.1
                have HS9_ := hc_ hb hHeld.2.2.2.2.2.2.2.2.2
                refine ⟨_, rfl, ?_⟩
                have n0_ := Aside0.mk (Kd.R_below (kr_ HO_5) hb)
                have n1_ := Aside0.mk (Kd.Q_below (by (with_reducible repeat (first | apply Kd.Q_alloc | apply Kd.Q_drewN | apply Kd.Q_drew)); exact HO_7.out) hb)
                have n2_ := bb_ BK395 hb; have n3_ := bb_ BK402 hb; have n4_ := bb_ BK404 hb; have n5_ := Aside0.mk (below_step (bf_ HB) hb); clear HO_5 HO_7 BK395 BK402 BK404 HB; have HO_5 := n0_; have HO_7 := n1_; have BK395 := n2_; have BK402 := n3_; have BK404 := n4_; have HB := n5_; clear n0_ n1_ n2_ n3_ n4_ n5_; (try clear hb); (try clear hb2); (try clear hk); (try clear hi)
                refine hK.out _ _ ⟨bt_ BK402 0, bt_ BK402 1, bt_ BK402 2, bt_ BK404 0, bt_ BK404 1, bt_ BK404 2, bt_ BK404 3, HS7_, HS8_, HS9_⟩ (fun hHeld => ?_)
                clear hK K
                refine norm_ (a' := ?_) ?_ ?_
                rotate_left
                ·show Act.put _ (some 71) _ = _
                 simp only [Act.put, ls0_, ls1_, ls2_, i64_w, i32_w]
                 rfl
                refine ps_ 7 64 (bs 13 8) HT_ ?_
                refine ps_ 8 72 (bs 13 9) HT_ ?_
                refine ps_ 9 73 (bs 13 10) HT_ ?_
                refine on_ 10 (some 12) (bs 13 11) HT_ (fun K hK => ?_)
                refine box_step ?hg (N := 12) ?hd (cs := #[.int .i64 0, .int .i64 0, .int .i64 0]) (t := 46) ?hr ?_; (case hd => rfl); (case hg => rfl); (case hr => first | (go_simp; done) | (go_simp; rfl))
                intro gb411 hg w55 hbox hb
                have HS7_ := hc_ hb hHeld.2.2.2.2.2.2.2.1
                have HS8_ := hc_ hb hHeld.2.2.2.2.2.2.2.2.1
                have HS9_ := hc_ hb hHeld.2.2.2.2.2.2.2.2.2
                have n0_ := Aside0.mk (Kd.R_below (Kd.R_elderB (kr_ HO_5) gb411 (Nat.le_of_eq hg.symm)) hb)
                have n1_ := Aside0.mk (Kd.Q_below (Kd.Q_elderB (by (with_reducible repeat (first | apply Kd.Q_alloc | apply Kd.Q_drewN | apply Kd.Q_drew)); exact HO_7.out) gb411 (Nat.le_of_eq hg.symm)) hb)
                have n2_ := bb_ BK395 hb; have n3_ := bb_ BK402 hb; have n4_ := bb_ BK404 hb; have n5_ := Aside0.mk (below_step (bf_ HB) hb); have n6_ := Aside0.mk (hbox); have n7_ := gw_ HB hg; have n8_ := gw_ HB hg; have n9_ := nl_ BK395 hg; have n10_ := ng_ BK395 hg; have n11_ := nl_ BK402 hg; have n12_ := ng_ BK402 hg; have n13_ := nl_ BK404 hg; have n14_ := ng_ BK404 hg; clear HO_5 HO_7 BK395 BK402 BK404 HB; have HO_5 := n0_; have HO_7 := n1_; have BK395 := n2_; have BK402 := n3_; have BK404 := n4_; have HB := n5_; have BK411 := n6_; have GW411 := n7_; have GE411 := n8_; have NB395_411 := n9_; have NB411_395 := n10_; have NB402_411 := n11_; have NB411_402 := n12_; have NB404_411 := n13_; have NB411_404 := n14_; clear n0_ n1_ n2_ n3_ n4_ n5_ n6_ n7_ n8_ n9_ n10_ n11_ n12_ n13_ n14_ hb hbox hg
                refine hK.out _ _ ⟨bt_ BK402 0, bt_ BK402 1, bt_ BK402 2, bt_ BK404 0, bt_ BK404 1, bt_ BK404 2, bt_ BK404 3, HS7_, HS8_, HS9_⟩ (fun hHeld => ?_)
                clear hK K
                refine norm_ (a' := ?_) ?_ ?_
                rotate_left
                ·show Act.put _ (some 12) _ = _
                 simp only [Act.put, ls0_, ls1_, ls2_, i64_w, i32_w]
                 rfl
                exact norm_ (by simp only [putAll, Act.put, ls0_, ls1_, ls2_]) (hCont (gb411) _ ⟨hHeld, (by (with_reducible repeat (first | apply Kd.R_alloc | apply Kd.R_drewN | apply Kd.R_drew)); exact Kd.R_mono HO_5.out (fun _ hk => by first | exact ⟨hk.1.1, ⟨hk.1.2.1, ⟨hk.1.2.2, hk.2⟩⟩⟩ | grind)), (by (with_reducible repeat (first | apply Kd.Q_alloc | apply Kd.Q_drewN | apply Kd.Q_drew)); exact Kd.Q_mono HO_7.out (fun _ hk => by first | exact ⟨hk.1.1, ⟨hk.1.2.1, ⟨hk.1.2.2, hk.2⟩⟩⟩ | grind)), (bk_ BK395), (bk_ BK402), (bk_ BK404), (bk_ BK411), GW411.out, GE411.out, NB395_411.out, NB411_395.out, NB402_411.out, NB411_402.out, NB404_411.out, NB411_404.out, (bf_ HB)⟩)
               ·skip
                refine box_step ?hg (N := 12) ?hd (cs := #[.int .i64 0, .int .i64 0, .int .i64 0]) (t := 46) ?hr ?_; (case hd => rfl); (case hg => rfl); (case hr => first | (go_simp; done) | (go_simp; rfl))
                intro gb411 hg w54 hbox hb
                have HS7_ := hc_ hb hHeld.2.2.2.2.2.2.2.1
                have HS8_ := hc_ hb hHeld.2.2.2.2.2.2.2.2.1
                have HS9_ := hc_ hb hHeld.2.2.2.2.2.2.2.2.2
                have n0_ := Aside0.mk (Kd.R_below (Kd.R_elderB (kr_ HO_5) gb411 (Nat.le_of_eq hg.symm)) hb)
                have n1_ := Aside0.mk (Kd.Q_below (Kd.Q_elderB (by (with_reducible repeat (first | apply Kd.Q_alloc | apply Kd.Q_drewN | apply Kd.Q_drew)); exact HO_7.out) gb411 (Nat.le_of_eq hg.symm)) hb)
                have n2_ := bb_ BK395 hb; have n3_ := bb_ BK402 hb; have n4_ := bb_ BK404 hb; have n5_ := Aside0.mk (below_step (bf_ HB) hb); have n6_ := Aside0.mk (hbox); have n7_ := gw_ HB hg; have n8_ := gw_ HB hg; have n9_ := nl_ BK395 hg; have n10_ := ng_ BK395 hg; have n11_ := nl_ BK402 hg; have n12_ := ng_ BK402 hg; have n13_ := nl_ BK404 hg; have n14_ := ng_ BK404 hg; clear HO_5 HO_7 BK395 BK402 BK404 HB; have HO_5 := n0_; have HO_7 := n1_; have BK395 := n2_; have BK402 := n3_; have BK404 := n4_; have HB := n5_; have BK411 := n6_; have GW411 := n7_; have GE411 := n8_; have NB395_411 := n9_; have NB411_395 := n10_; have NB402_411 := n11_; have NB411_402 := n12_; have NB404_411 := n13_; have NB411_404 := n14_; clear n0_ n1_ n2_ n3_ n4_ n5_ n6_ n7_ n8_ n9_ n10_ n11_ n12_ n13_ n14_ hb hbox hg
                refine hK.out _ _ ⟨bt_ BK402 0, bt_ BK402 1, bt_ BK402 2, bt_ BK404 0, bt_ BK404 1, bt_ BK404 2, bt_ BK404 3, HS7_, HS8_, HS9_⟩ (fun hHeld => ?_)
                clear hK K
                refine norm_ (a' := ?_) ?_ ?_
                rotate_left
                ·show Act.put _ (some 12) _ = _
                 simp only [Act.put, ls0_, ls1_, ls2_, i64_w, i32_w]
                 rfl
                refine on_ 6 (some 71) (bm 13 1151) HT_ (fun K hK => ?_)
                refine gs_ Try.func66 #[.agg #[.int .i64 x403000_1, .int .i64 x403001_1, .int .i64 x403002_1], .agg #[.int .i64 ((rd_T46 x7_1 0).f0), .int .i64 ((rd_T46 x7_1 0).f1), .int .i64 ((rd_T46 x7_1 0).f2)], .agg #[.int .i64 ((rd_T51 l0 x23_1).f1.f0), .int .i64 ((rd_T51 l0 x23_1).f1.f1), .int .i64 ((rd_T51 l0 x23_1).f1.f2)]] ?_
                with_reducible refine (impl_Settle.calls kj15 x403000_1 x403001_1 x403002_1 ((rd_T46 x7_1 0).f0) ((rd_T46 x7_1 0).f1) ((rd_T46 x7_1 0).f2) ((rd_T51 l0 x23_1).f1.f0) ((rd_T51 l0 x23_1).f1.f1) ((rd_T51 l0 x23_1).f1.f2) t407 t408 t409 true _ A46.out).mono ?_
                rintro e w55 ⟨rfl, hb⟩
                have HS7_ := hc_ hb hHeld.2.2.2.2.2.2.2.1
                have HS8_ := hc_ hb hHeld.2.2.2.2.2.2.2.2.1
                have HS9_ := hc_ hb hHeld.2.2.2.2.2.2.2.2.2
                refine ⟨_, rfl, ?_⟩
                have n0_ := Aside0.mk (Kd.R_below (kr_ HO_5) hb)
                have n1_ := Aside0.mk (Kd.Q_below (by (with_reducible repeat (first | apply Kd.Q_alloc | apply Kd.Q_drewN | apply Kd.Q_drew)); exact HO_7.out) hb)
                have n2_ := bb_ BK395 hb; have n3_ := bb_ BK402 hb; have n4_ := bb_ BK404 hb; have n5_ := bb_ BK411 hb; have n6_ := Aside0.mk (below_step (bf_ HB) hb); clear HO_5 HO_7 BK395 BK402 BK404 BK411 HB; have HO_5 := n0_; have HO_7 := n1_; have BK395 := n2_; have BK402 := n3_; have BK404 := n4_; have BK411 := n5_; have HB := n6_; clear n0_ n1_ n2_ n3_ n4_ n5_ n6_; (try clear hb); (try clear hb2); (try clear hk); (try clear hi)
                refine hK.out _ _ ⟨bt_ BK402 0, bt_ BK402 1, bt_ BK402 2, bt_ BK404 0, bt_ BK404 1, bt_ BK404 2, bt_ BK404 3, HS7_, HS8_, HS9_⟩ (fun hHeld => ?_)
                clear hK K
                refine norm_ (a' := ?_) ?_ ?_
                rotate_left
                ·show Act.put _ (some 71) _ = _
                 simp only [Act.put, ls0_, ls1_, ls2_, i64_w, i32_w]
                 rfl
                refine ps_ 7 64 (bm 13 1279) HT_ ?_
                refine ps_ 8 72 (bm 13 1535) HT_ ?_
                refine ps_ 9 73 (bs 13 11) HT_ ?_
                exact norm_ (by simp only [putAll, Act.put, ls0_, ls1_, ls2_]) (hCont (gb411) _ ⟨hHeld, (by (with_reducible repeat (first | apply Kd.R_alloc | apply Kd.R_drewN | apply Kd.R_drew)); exact Kd.R_mono HO_5.out (fun _ hk => by first | exact ⟨hk.1.1, ⟨hk.1.2.1, ⟨hk.1.2.2, hk.2⟩⟩⟩ | grind)), (by (with_reducible repeat (first | apply Kd.Q_alloc | apply Kd.Q_drewN | apply Kd.Q_drew)); exact Kd.Q_mono HO_7.out (fun _ hk => by first | exact ⟨hk.1.1, ⟨hk.1.2.1, ⟨hk.1.2.2, hk.2⟩⟩⟩ | grind)), (bk_ BK395), (bk_ BK402), (bk_ BK404), (bk_ BK411), GW411.out, GE411.out, NB395_411.out, NB411_395.out, NB402_411.out, NB411_402.out, NB404_411.out, NB411_404.out, (bf_ HB)⟩)
              rintro gb411 w56 ⟨hS_, h0_, h1_, h2_, h3_, h4_, h5_, h6_, h7_, h8_, h9_, h10_, h11_, h12_, h13_, h14_⟩
              have n0_ : Aside0 (Kd.R k46 46 w56 w.heap.size (fun k_ => some k_ ≠ (.slice (some ad406) x7_1.length co53 : Value).ownBlock ∧ k_ ≠ gb395 ∧ k_ ≠ gb402 ∧ k_ ≠ gb411) u5 x5_1) := ⟨h0_⟩
              have n1_ : Aside0 (Kd.Q k46 46 w56 w.heap.size (fun k_ => some k_ ≠ (u5 : Value).ownBlock ∧ k_ ≠ gb395 ∧ k_ ≠ gb402 ∧ k_ ≠ gb411) (.slice (some ad406) x7_1.length co53) x7_1) := ⟨h1_⟩
              have n2_ : Aside0 (w56.heap[gb395]? = some (.cells #[.int .i64 x396000_1, .int .i64 x396001_1, .int .i64 x396002_1] 46 (0, 0))) := ⟨h2_⟩
              have n3_ : Aside0 (w56.heap[gb402]? = some (.cells #[.int .i64 x403000_1, .int .i64 x403001_1, .int .i64 x403002_1] 46 (0, 0))) := ⟨h3_⟩
              have n4_ : Aside0 (w56.heap[gb404]? = some (.cells #[.bool ((rd_T51 l0 x23_1).f0), .int .i64 ((rd_T51 l0 x23_1).f1.f0), .int .i64 ((rd_T51 l0 x23_1).f1.f1), .int .i64 ((rd_T51 l0 x23_1).f1.f2)] 51 (0, 0))) := ⟨h4_⟩
              have n5_ : Aside0 (w56.heap[gb411]? = some (.cells #[.int .i64 0, .int .i64 0, .int .i64 0] 46 (0, 0))) := ⟨h5_⟩
              have n6_ : Aside0 (w.heap.size ≤ gb411) := ⟨h6_⟩
              have n7_ : Aside0 (w.heap.size ≤ gb411) := ⟨h7_⟩
              have n8_ : Aside0 (gb395 ≠ gb411) := ⟨h8_⟩
              have n9_ : Aside0 (gb411 ≠ gb395) := ⟨h9_⟩
              have n10_ : Aside0 (gb402 ≠ gb411) := ⟨h10_⟩
              have n11_ : Aside0 (gb411 ≠ gb402) := ⟨h11_⟩
              have n12_ : Aside0 (gb404 ≠ gb411) := ⟨h12_⟩
              have n13_ : Aside0 (gb411 ≠ gb404) := ⟨h13_⟩
              have n14_ : Aside0 (Below w.heap.size w w56) := ⟨h14_⟩
              clear HO_5 HO_7 BK395 BK402 BK404 HB h0_ h1_ h2_ h3_ h4_ h5_ h6_ h7_ h8_ h9_ h10_ h11_ h12_ h13_ h14_; have HO_5 := n0_; have HO_7 := n1_; have BK395 := n2_; have BK402 := n3_; have BK404 := n4_; have BK411 := n5_; have GW411 := n6_; have GE411 := n7_; have NB395_411 := n8_; have NB411_395 := n9_; have NB402_411 := n10_; have NB411_402 := n11_; have NB404_411 := n12_; have NB411_404 := n13_; have HB := n14_; clear n0_ n1_ n2_ n3_ n4_ n5_ n6_ n7_ n8_ n9_ n10_ n11_ n12_ n13_ n14_
              have hHeld : w56.cell? ⟨gb402, 0, none⟩ = some (.int .i64 x403000_1) ∧ w56.cell? ⟨gb402, 1, none⟩ = some (.int .i64 x403001_1) ∧ w56.cell? ⟨gb402, 2, none⟩ = some (.int .i64 x403002_1) ∧ w56.cell? ⟨gb404, 0, none⟩ = some (.bool ((rd_T51 l0 x23_1).f0)) ∧ w56.cell? ⟨gb404, 1, none⟩ = some (.int .i64 ((rd_T51 l0 x23_1).f1.f0)) ∧ w56.cell? ⟨gb404, 2, none⟩ = some (.int .i64 ((rd_T51 l0 x23_1).f1.f1)) ∧ w56.cell? ⟨gb404, 3, none⟩ = some (.int .i64 ((rd_T51 l0 x23_1).f1.f2)) ∧ w56.cell? ad406 = some (.int .i64 ((rd_T46 x7_1 0).f0)) ∧ w56.cell? ⟨ad406.block, ad406.off + 1, none⟩ = some (.int .i64 ((rd_T46 x7_1 0).f1)) ∧ w56.cell? ⟨ad406.block, ad406.off + 2, none⟩ = some (.int .i64 ((rd_T46 x7_1 0).f2)) := hS_
              refine norm_ (a' := ?_) ?_ ?_
              rotate_left
              ·simp only [putAll, Act.put, ls0_, ls1_, ls2_]
               rfl
              refine on_ 11 none (bs 13 12) HT_ (fun K hK => ?_)
              have hs57 := bc_ BK411 0 (.int .i64 0) rfl; have hfs57 := blk_frozen BK411.out 0; have hns57_0 := NB395_411.out; have hns57_1 := NB402_411.out; have hns57_2 := NB404_411.out; have hms57_0 := NB411_395.out; have hms57_1 := NB411_402.out; have hms57_2 := NB411_404.out; have hs58 := bc_ BK411 1 (.int .i64 0) rfl; have hfs58 := blk_frozen BK411.out 1; have hns58_0 := NB395_411.out; have hns58_1 := NB402_411.out; have hns58_2 := NB404_411.out; have hms58_0 := NB411_395.out; have hms58_1 := NB411_402.out; have hms58_2 := NB411_404.out; have hs59 := bc_ BK411 2 (.int .i64 0) rfl; have hfs59 := blk_frozen BK411.out 2; have hns59_0 := NB395_411.out; have hns59_1 := NB402_411.out; have hns59_2 := NB404_411.out; have hms59_0 := NB411_395.out; have hms59_1 := NB411_402.out; have hms59_2 := NB411_404.out
              refine skip_ (w1 := ?_) (by rfl) rfl ?_ ?_
              rotate_left
              ·go_simp
               rfl
              refine hK.out _ _ ⟨(cf3_ NB402_411.out hHeld.1), (cf3_ NB402_411.out hHeld.2.1), (cf3_ NB402_411.out hHeld.2.2.1), (cf3_ NB404_411.out hHeld.2.2.2.1), (cf3_ NB404_411.out hHeld.2.2.2.2.1), (cf3_ NB404_411.out hHeld.2.2.2.2.2.1), (cf3_ NB404_411.out hHeld.2.2.2.2.2.2.1), (cf3_ (by first | exact Kd.own_blk (Kd.Q_away HO_7.out (fun _ hk => by first | exact hk.2.2.2 | grind)) | (rw [add_block]; exact Kd.own_blk (Kd.Q_away HO_7.out (fun _ hk => by first | exact hk.2.2.2 | grind))) | (show (Addr.add _ _).block ≠ _; rw [add_block]; exact Kd.own_blk (Kd.Q_away HO_7.out (fun _ hk => by first | exact hk.2.2.2 | grind))) | (dsimp only; exact Kd.own_blk (Kd.Q_away HO_7.out (fun _ hk => by first | exact hk.2.2.2 | grind)))) hHeld.2.2.2.2.2.2.2.1), (cf3_ (by first | exact Kd.own_blk (Kd.Q_away HO_7.out (fun _ hk => by first | exact hk.2.2.2 | grind)) | (rw [add_block]; exact Kd.own_blk (Kd.Q_away HO_7.out (fun _ hk => by first | exact hk.2.2.2 | grind))) | (show (Addr.add _ _).block ≠ _; rw [add_block]; exact Kd.own_blk (Kd.Q_away HO_7.out (fun _ hk => by first | exact hk.2.2.2 | grind))) | (dsimp only; exact Kd.own_blk (Kd.Q_away HO_7.out (fun _ hk => by first | exact hk.2.2.2 | grind)))) hHeld.2.2.2.2.2.2.2.2.1), (cf3_ (by first | exact Kd.own_blk (Kd.Q_away HO_7.out (fun _ hk => by first | exact hk.2.2.2 | grind)) | (rw [add_block]; exact Kd.own_blk (Kd.Q_away HO_7.out (fun _ hk => by first | exact hk.2.2.2 | grind))) | (show (Addr.add _ _).block ≠ _; rw [add_block]; exact Kd.own_blk (Kd.Q_away HO_7.out (fun _ hk => by first | exact hk.2.2.2 | grind))) | (dsimp only; exact Kd.own_blk (Kd.Q_away HO_7.out (fun _ hk => by first | exact hk.2.2.2 | grind)))) hHeld.2.2.2.2.2.2.2.2.2)⟩ (fun hHeld => ?_)
              clear hK K
              refine ps_ 12 13 (bs 13 13) HT_ ?_
              refine done_ (done_of HT_.out (by kernel_rfl)) ?_
              try go_wp2
              generalize hW_ : (((w56.setCell ⟨gb411, 0, none⟩ (.int .i64 t407)).setCell ⟨gb411, 1, none⟩ (.int .i64 t408)).setCell ⟨gb411, 2, none⟩ (.int .i64 t409)) = w60
              replace HO_5 : Aside0 (Kd.R k46 46 w60 w.heap.size (fun k_ => some k_ ≠ (.slice (some ad406) x7_1.length co53 : Value).ownBlock ∧ k_ ≠ gb395 ∧ k_ ≠ gb402 ∧ k_ ≠ gb411) u5 x5_1) := ⟨by cases hW_; (with_reducible repeat (first | apply Kd.R_alloc | apply Kd.R_drewN | apply Kd.R_drew)); exact Kd.R_mono (Kd.R_far (p := ⟨gb411, 2, none⟩) (Kd.R_far (p := ⟨gb411, 1, none⟩) (Kd.R_far (p := ⟨gb411, 0, none⟩) (Kd.R_mono HO_5.out (fun k_ hk => by first | exact (⟨hk, hk.2.2.2⟩ : _ ∧ k_ ≠ gb411) | grind)) (fun _ hk => by first | exact hk.2 | grind) (.int .i64 t407)) (fun _ hk => by first | exact hk.2 | grind) (.int .i64 t408)) (fun _ hk => by first | exact hk.2 | grind) (.int .i64 t409)) (fun _ hk => by first | exact ⟨hk.1.1, ⟨hk.1.2.1, ⟨hk.1.2.2.1, hk.1.2.2.2⟩⟩⟩ | grind)⟩
              replace HO_7 : Aside0 (Kd.Q k46 46 w60 w.heap.size (fun k_ => some k_ ≠ (u5 : Value).ownBlock ∧ k_ ≠ gb395 ∧ k_ ≠ gb402 ∧ k_ ≠ gb411) (.slice (some ad406) x7_1.length co53) x7_1) := ⟨by cases hW_; (with_reducible repeat (first | apply Kd.Q_alloc | apply Kd.Q_drewN | apply Kd.Q_drew)); exact Kd.Q_mono (Kd.Q_far (p := ⟨gb411, 2, none⟩) (Kd.Q_far (p := ⟨gb411, 1, none⟩) (Kd.Q_far (p := ⟨gb411, 0, none⟩) (Kd.Q_mono HO_7.out (fun k_ hk => by first | exact (⟨hk, hk.2.2.2⟩ : _ ∧ k_ ≠ gb411) | grind)) (fun _ hk => by first | exact hk.2 | grind) (.int .i64 t407)) (fun _ hk => by first | exact hk.2 | grind) (.int .i64 t408)) (fun _ hk => by first | exact hk.2 | grind) (.int .i64 t409)) (fun _ hk => by first | exact ⟨hk.1.1, ⟨hk.1.2.1, ⟨hk.1.2.2.1, hk.1.2.2.2⟩⟩⟩ | grind)⟩
              replace BK395 := fc3_ hW_ BK395 NB395_411
              replace BK402 := fc3_ hW_ BK402 NB402_411
              replace BK404 := fc3_ hW_ BK404 NB404_411
              replace BK411 : Aside0 (w60.heap[gb411]? = some (.cells #[.int .i64 t407, .int .i64 t408, .int .i64 t409] 46 (0, 0))) := pc3_ hW_ BK411
              replace HB : Aside0 (Below w.heap.size w w60) := ⟨by cases hW_; exact bf_ HB⟩
              clear hW_; replace HO_5 := Aside0.mk (Kd.R_drew HO_5.out); replace HO_7 := Aside0.mk (Kd.Q_drew HO_7.out); replace BK395 := Aside0.mk (blk_drew BK395.out); replace BK402 := Aside0.mk (blk_drew BK402.out); replace BK404 := Aside0.mk (blk_drew BK404.out); replace BK411 := Aside0.mk (blk_drew BK411.out); replace HB := Aside0.mk (below_drew1 HB.out)
              have q62 : (1 : Int) ≤ ((x7_1.length : Int) : Int) := od_
              obtain ⟨i062, hi062, _, hsz62, _⟩ := info_parts info46
              have hcut62 := cut_from (P := Try.prog) 44 46 .i64 Try.underlying44 hi062 3 hsz62 (some ad406) x7_1.length co53 1 (by omega) q62
              have hr62 := Kd.Q_drop (k := (1 : Int).toNat) HO_7.out (by omega)
              obtain ⟨A62, hA62⟩ : ∃ A1, A1 = (if co53 = (1 : Int).toNat then (some ad406) else ((some ad406) : Option Addr).map (·.add ((1 : Int).toNat * 3))) := ⟨_, rfl⟩
              obtain ⟨c62, hc62⟩ : ∃ c1, c1 = co53 - (1 : Int).toNat := ⟨_, rfl⟩
              have hy62 : y412.length = x7_1.length - (1 : Int).toNat := (by rw [Ny412.out, List.length_drop])
              rw [← Ny412.out] at hr62
              rw [← hy62, ← hA62, ← hc62] at hcut62
              replace hr62 : Kd.Q k46 46 w60.drew w.heap.size (fun k_ => some k_ ≠ (u5 : Value).ownBlock ∧ k_ ≠ gb395 ∧ k_ ≠ gb402 ∧ k_ ≠ gb411) (.slice A62 y412.length c62) y412 := (by rw [hA62, hc62, hy62]; exact hr62)
              have HE62 : Aside0 ((Value.slice A62 y412.length c62).ownBlock = (.slice (some ad406) x7_1.length co53 : Value).ownBlock) := ⟨by rw [hA62]; split <;> (cases ((some ad406) : Option Addr) <;> rfl)⟩
              clear hy62 hi062 hsz62 HO_7 hA62 hc62; have HO414 := Aside0.mk hr62; clear hr62
              replace q62 := eq_true q62
              have n_ := Aside0.mk (Kd.R_mono (ok' := fun k_ => (some k_ ≠ (.slice A62 y412.length c62 : Value).ownBlock ∧ (k_ ≠ gb395 ∧ (k_ ≠ gb402 ∧ k_ ≠ gb411)))) HO_5.out (fun k_ hk => by first | exact ⟨(by rw [HE62.out]; exact hk.1), ⟨hk.2.1, ⟨hk.2.2.1, hk.2.2.2⟩⟩⟩ | grind))
              clear HO_5; have HO_5 := n_; clear n_
              refine start_ (n := 5) (S := fun w' => cw_ w' gb411 0 (.int .i64 t407) ∧ cw_ w' gb411 1 (.int .i64 t408) ∧ cw_ w' gb411 2 (.int .i64 t409)) (ds := []) (bs 5 0) (by kernel_rfl) rfl rfl ⟨bt_ BK411 0, bt_ BK411 1, bt_ BK411 2⟩ (fun hHeld => ?_)
              generalize w60.drew = w61 at HO_5 BK395 BK402 BK404 BK411 HB HO414 hHeld ⊢
              refine ps0_ 1 80 #[oF,oT,oF,oF,oF] ?_
              refine ps0_ 2 81 #[oF,oT,oT,oF,oF] ?_
              refine tk0_ 0 79 (bs 5 3) hHeld ?_
              refine on0_ 3 none (bs 5 4) (fun K hK => ?_)
              have hs63 := bc_ BK402 0 (.int .i64 x403000_1) rfl; have hfs63 := blk_frozen BK402.out 0; have hns63_0 := NB395_402.out; have hns63_2 := NB404_402.out; have hns63_3 := NB411_402.out; have hms63_0 := NB402_395.out; have hms63_2 := NB402_404.out; have hms63_3 := NB402_411.out; have hs64 := bc_ BK402 1 (.int .i64 x403001_1) rfl; have hfs64 := blk_frozen BK402.out 1; have hns64_0 := NB395_402.out; have hns64_2 := NB404_402.out; have hns64_3 := NB411_402.out; have hms64_0 := NB402_395.out; have hms64_2 := NB402_404.out; have hms64_3 := NB402_411.out; have hs65 := bc_ BK402 2 (.int .i64 x403002_1) rfl; have hfs65 := blk_frozen BK402.out 2; have hns65_0 := NB395_402.out; have hns65_2 := NB404_402.out; have hns65_3 := NB411_402.out; have hms65_0 := NB402_395.out; have hms65_2 := NB402_404.out; have hms65_3 := NB402_411.out
              refine skip_ (w1 := ?_) (by rfl) rfl ?_ ?_
              rotate_left
              ·go_simp
               rfl
              refine hK.out _ _ ⟨(cf3_ NB411_402.out hHeld.1), (cf3_ NB411_402.out hHeld.2.1), (cf3_ NB411_402.out hHeld.2.2)⟩ (fun hHeld => ?_)
              clear hK K
              refine ps0_ 4 7 (bs 5 5) ?_
              refine done_ (by kernel_rfl) ?_
              try go_wp2
              go_roundg kj15
              case measure => have := HK1.out; have := HJ15.out; omega
              case rel => exact ⟨(x5_1), (y412), (wrap64 (x23_1 + 1)), (x396000_1), (x396001_1), (x396002_1), (t407), (t408), (t409), (by first | rfl | (simp; done) | (simp [*]; done)), H', ⟨by have := HK1.out; have := HJ15.out; omega⟩, ⟨by (with_reducible repeat (first | apply Kd.R_alloc | apply Kd.R_drewN | apply Kd.R_drew)); exact Kd.R_mono (Kd.R_far (p := ⟨gb402, 2, none⟩) (Kd.R_far (p := ⟨gb402, 1, none⟩) (Kd.R_far (p := ⟨gb402, 0, none⟩) (Kd.R_mono HO_5.out (fun k_ hk => by first | exact (⟨hk, hk.2.2.1⟩ : _ ∧ k_ ≠ gb402) | grind)) (fun _ hk => by first | exact hk.2 | grind) (.int .i64 t407)) (fun _ hk => by first | exact hk.2 | grind) (.int .i64 t408)) (fun _ hk => by first | exact hk.2 | grind) (.int .i64 t409)) (fun _ hk => by first | exact ⟨hk.1.1, ⟨hk.1.2.1, hk.1.2.2.1⟩⟩ | grind)⟩, ⟨by (with_reducible repeat (first | apply Kd.Q_alloc | apply Kd.Q_drewN | apply Kd.Q_drew)); exact Kd.Q_mono (Kd.Q_far (p := ⟨gb402, 2, none⟩) (Kd.Q_far (p := ⟨gb402, 1, none⟩) (Kd.Q_far (p := ⟨gb402, 0, none⟩) (Kd.Q_mono HO414.out (fun k_ hk => by first | exact (⟨hk, hk.2.2.1⟩ : _ ∧ k_ ≠ gb402) | grind)) (fun _ hk => by first | exact hk.2 | grind) (.int .i64 t407)) (fun _ hk => by first | exact hk.2 | grind) (.int .i64 t408)) (fun _ hk => by first | exact hk.2 | grind) (.int .i64 t409)) (fun _ hk => by first | exact ⟨hk.1.1, ⟨hk.1.2.1, hk.1.2.2.1⟩⟩ | grind)⟩, ⟨by (with_reducible repeat (first | refine blk_drewN ?_ _ | refine blk_drew ?_ | refine blk_alloc ?_ _)); refine blk_far ?_ NB395_402.out _; (with_reducible repeat (first | refine blk_drewN ?_ _ | refine blk_drew ?_ | refine blk_alloc ?_ _)); refine blk_far ?_ NB395_402.out _; (with_reducible repeat (first | refine blk_drewN ?_ _ | refine blk_drew ?_ | refine blk_alloc ?_ _)); refine blk_far ?_ NB395_402.out _; exact bk_ BK395⟩, ⟨by (with_reducible repeat (first | refine blk_drewN ?_ _ | refine blk_drew ?_ | refine blk_alloc ?_ _)); refine blk_put (cs := #[.int .i64 t407, .int .i64 t408, .int .i64 x403002_1]) ?_ 2 _ rfl; (with_reducible repeat (first | refine blk_drewN ?_ _ | refine blk_drew ?_ | refine blk_alloc ?_ _)); refine blk_put (cs := #[.int .i64 t407, .int .i64 x403001_1, .int .i64 x403002_1]) ?_ 1 _ rfl; (with_reducible repeat (first | refine blk_drewN ?_ _ | refine blk_drew ?_ | refine blk_alloc ?_ _)); refine blk_put (cs := #[.int .i64 x403000_1, .int .i64 x403001_1, .int .i64 x403002_1]) ?_ 0 _ rfl; exact bk_ BK402⟩, ⟨bf_ HB⟩⟩
             ·rw [if_neg c48] at H
              exact absurd H (by simp)
            ·replace c47 := Bool.eq_false_iff.mpr c47
             subst c47
             have H1 : (some (([] : List (S46)), 0, 0, 0, wrap64 (x23_1 + 1))) = some (r1, r2, r3, r4, r5) := by rw [if_neg (show ¬ (false = true) by decide)] at H; exact H
             clear H
             have H := H1
             clear H1
             simp only [Option.some.injEq, Prod.mk.injEq] at H
             obtain ⟨rfl, rfl, rfl, rfl, rfl⟩ := H
             have hnb66 := NB404_395.out; have hnc66 := NB395_404.out; have hnb67 := NB404_402.out; have hnc67 := NB402_404.out
             have hcz68_0 : wc.cell? ⟨gb404, 0, none⟩ = some (.bool ((rd_T51 l0 x23_1).f0)) := (blk_cell BK404.out 0).trans rfl
             have hcz68_1 : wc.cell? ⟨gb404, 1, none⟩ = some (.int .i64 ((rd_T51 l0 x23_1).f1.f0)) := (blk_cell BK404.out 1).trans rfl
             have hcz68_2 : wc.cell? ⟨gb404, 2, none⟩ = some (.int .i64 ((rd_T51 l0 x23_1).f1.f1)) := (blk_cell BK404.out 2).trans rfl
             have hcz68_3 : wc.cell? ⟨gb404, 3, none⟩ = some (.int .i64 ((rd_T51 l0 x23_1).f1.f2)) := (blk_cell BK404.out 3).trans rfl
             have hfz68_0 := blk_frozen BK404.out 0; have hfz68_1 := blk_frozen BK404.out 1; have hfz68_2 := blk_frozen BK404.out 2; have hfz68_3 := blk_frozen BK404.out 3
             try go_wp2
             replace HO_5 := Aside0.mk (Kd.R_drew HO_5.out); replace HO_7 := Aside0.mk (Kd.Q_drew HO_7.out); replace BK395 := Aside0.mk (blk_drew BK395.out); replace BK402 := Aside0.mk (blk_drew BK402.out); replace BK404 := Aside0.mk (blk_drew BK404.out); replace HB := Aside0.mk (below_drew1 HB.out)
             obtain ⟨Ao70, co70, eo70, _⟩ := Kd.Q_slice HO_7.out
             (first | subst eo70 | (injection eo70 with f1_ f2_ f3_; have f4_ := f1_.symm; have f5_ := f3_.symm; clear f1_ f2_ f3_; subst f4_; subst f5_))
             have p406 : 0 ≤ (0 : Int) := (by omega)
             have q406 : 0 < (x7_1.length : Int) := od_
             obtain ⟨ad406, e406, hx406_0, hx406_1, hx406_2⟩ := at_T46 (Kd.Q_reads' HO_7.out).2.2 0 p406 q406
             cases e406
             have qi406 : (0 < x7_1.length) = True := eq_true (by omega)
             (try rw [show ((0 : Int)).toNat = 0 from rfl] at hx406_0)
             (try rw [show 0 * 3 = 0 from rfl] at hx406_0)
             (try rw [Addr.add_zero'] at hx406_0)
             (try rw [show ((0 : Int)).toNat = 0 from rfl] at hx406_1)
             (try rw [show 0 * 3 = 0 from rfl] at hx406_1)
             (try rw [Addr.add_zero'] at hx406_1)
             (try rw [show ((0 : Int)).toNat = 0 from rfl] at hx406_2)
             (try rw [show 0 * 3 = 0 from rfl] at hx406_2)
             (try rw [Addr.add_zero'] at hx406_2)
             replace p406 := eq_true p406
             replace q406 := eq_true q406
             refine start_ (n := 13) (S := fun w' => cw_ w' gb402 0 (.int .i64 x403000_1) ∧ cw_ w' gb402 1 (.int .i64 x403001_1) ∧ cw_ w' gb402 2 (.int .i64 x403002_1) ∧ cw_ w' gb404 0 (.bool ((rd_T51 l0 x23_1).f0)) ∧ cw_ w' gb404 1 (.int .i64 ((rd_T51 l0 x23_1).f1.f0)) ∧ cw_ w' gb404 2 (.int .i64 ((rd_T51 l0 x23_1).f1.f1)) ∧ cw_ w' gb404 3 (.int .i64 ((rd_T51 l0 x23_1).f1.f2)) ∧ w'.cell? ad406 = some (.int .i64 ((rd_T46 x7_1 0).f0)) ∧ w'.cell? ⟨ad406.block, ad406.off + 1, none⟩ = some (.int .i64 ((rd_T46 x7_1 0).f1)) ∧ w'.cell? ⟨ad406.block, ad406.off + 2, none⟩ = some (.int .i64 ((rd_T46 x7_1 0).f2))) (ds := []) (bs 13 0) (by kernel_rfl) rfl rfl ⟨bt_ BK402 0, bt_ BK402 1, bt_ BK402 2, bt_ BK404 0, bt_ BK404 1, bt_ BK404 2, bt_ BK404 3, hx406_0, hx406_1, hx406_2⟩ (fun hHeld => ?_); refine with_tabW impl_CarryRun.tab12 impl_CarryRun.bits12 (fun HT_ HW_ => ?_)
             generalize wc.drew = w69 at HO_5 HO_7 BK395 BK402 BK404 HB hx406_0 hx406_1 hx406_2 hHeld ⊢
             refine ps_ 1 66 (bm 13 2) HT_ ?_
             refine ps_ 2 67 (bm 13 6) HT_ ?_
             refine ps_ 4 69 (bm 13 22) HT_ ?_
             refine tk_ 0 65 (bm 13 23) HT_ HW_ hHeld ?_
             refine tk_ 3 68 (bs 13 5) HT_ HW_ hHeld ?_
             refine tk_ 5 70 (bs 13 6) HT_ HW_ hHeld ?_
             refine join_ (σ := Nat) 2 (bs 13 11) (fun s_ => [(71, .tuple #[.agg #[.int .i64 t407, .int .i64 t408, .int .i64 t409], .bool false]), (12, .pointer (some ⟨s_, 0, none⟩)), (64, .tuple #[.agg #[.int .i64 t407, .int .i64 t408, .int .i64 t409], .bool false]), (72, .agg #[.int .i64 t407, .int .i64 t408, .int .i64 t409]), (73, .bool false)]) (fun s_ w' => (w'.cell? ⟨gb402, 0, none⟩ = some (.int .i64 x403000_1) ∧ w'.cell? ⟨gb402, 1, none⟩ = some (.int .i64 x403001_1) ∧ w'.cell? ⟨gb402, 2, none⟩ = some (.int .i64 x403002_1) ∧ w'.cell? ⟨gb404, 0, none⟩ = some (.bool ((rd_T51 l0 x23_1).f0)) ∧ w'.cell? ⟨gb404, 1, none⟩ = some (.int .i64 ((rd_T51 l0 x23_1).f1.f0)) ∧ w'.cell? ⟨gb404, 2, none⟩ = some (.int .i64 ((rd_T51 l0 x23_1).f1.f1)) ∧ w'.cell? ⟨gb404, 3, none⟩ = some (.int .i64 ((rd_T51 l0 x23_1).f1.f2)) ∧ w'.cell? ad406 = some (.int .i64 ((rd_T46 x7_1 0).f0)) ∧ w'.cell? ⟨ad406.block, ad406.off + 1, none⟩ = some (.int .i64 ((rd_T46 x7_1 0).f1)) ∧ w'.cell? ⟨ad406.block, ad406.off + 2, none⟩ = some (.int .i64 ((rd_T46 x7_1 0).f2))) ∧ (Kd.R k46 46 w' w.heap.size (fun k_ => some k_ ≠ (.slice (some ad406) x7_1.length co70 : Value).ownBlock ∧ k_ ≠ gb395 ∧ k_ ≠ gb402 ∧ k_ ≠ s_) u5 x5_1) ∧ (Kd.Q k46 46 w' w.heap.size (fun k_ => some k_ ≠ (u5 : Value).ownBlock ∧ k_ ≠ gb395 ∧ k_ ≠ gb402 ∧ k_ ≠ s_) (.slice (some ad406) x7_1.length co70) x7_1) ∧ (w'.heap[gb395]? = some (.cells #[.int .i64 x396000_1, .int .i64 x396001_1, .int .i64 x396002_1] 46 (0, 0))) ∧ (w'.heap[gb402]? = some (.cells #[.int .i64 x403000_1, .int .i64 x403001_1, .int .i64 x403002_1] 46 (0, 0))) ∧ (w'.heap[gb404]? = some (.cells #[.bool ((rd_T51 l0 x23_1).f0), .int .i64 ((rd_T51 l0 x23_1).f1.f0), .int .i64 ((rd_T51 l0 x23_1).f1.f1), .int .i64 ((rd_T51 l0 x23_1).f1.f2)] 51 (0, 0))) ∧ (w'.heap[s_]? = some (.cells #[.int .i64 0, .int .i64 0, .int .i64 0] 46 (0, 0))) ∧ (w.heap.size ≤ s_) ∧ (w.heap.size ≤ s_) ∧ (gb395 ≠ s_) ∧ (s_ ≠ gb395) ∧ (gb402 ≠ s_) ∧ (s_ ≠ gb402) ∧ (gb404 ≠ s_) ∧ (s_ ≠ gb404) ∧ (Below w.heap.size w w')) ?_ ?_
             rotate_left
             ·intro hCont
              refine two_ (i := 6) (j := 10) (Ni := some 71) (Nj := some 12) (bs 13 7) (bm 13 1087) rfl rfl rfl rfl (two_of HT_.out (by kernel_rfl)) (by decide) (by decide) (fun K hK => ?_) (fun K hK => ?_)
              ·skip
               refine gs_ Try.func66 #[.agg #[.int .i64 x403000_1, .int .i64 x403001_1, .int .i64 x403002_1], .agg #[.int .i64 ((rd_T46 x7_1 0).f0), .int .i64 ((rd_T46 x7_1 0).f1), .int .i64 ((rd_T46 x7_1 0).f2)], .agg #[.int .i64 ((rd_T51 l0 x23_1).f1.f0), .int .i64 ((rd_T51 l0 x23_1).f1.f1), .int .i64 ((rd_T51 l0 x23_1).f1.f2)]] ?_
               with_reducible refine (impl_Settle.calls kj15 x403000_1 x403001_1 x403002_1 ((rd_T46 x7_1 0).f0) ((rd_T46 x7_1 0).f1) ((rd_T46 x7_1 0).f2) ((rd_T51 l0 x23_1).f1.f0) ((rd_T51 l0 x23_1).f1.f1) ((rd_T51 l0 x23_1).f1.f2) t407 t408 t409 false _ A46.out).mono ?_
               rintro e w71 ⟨rfl, hb⟩
               have HS7_ := hc_ hb hHeld.2.2.2.2.2.2.2.1
               have HS8_ := hc_ hb hHeld.2.2.2.2.2.2.2.2.1
               have HS9_ := hc_ hb hHeld.2.2.2.2.2.2.2.2.2
               refine ⟨_, rfl, ?_⟩
               have n0_ := Aside0.mk (Kd.R_below (kr_ HO_5) hb)
               have n1_ := Aside0.mk (Kd.Q_below (by (with_reducible repeat (first | apply Kd.Q_alloc | apply Kd.Q_drewN | apply Kd.Q_drew)); exact HO_7.out) hb)
               have n2_ := bb_ BK395 hb; have n3_ := bb_ BK402 hb; have n4_ := bb_ BK404 hb; have n5_ := Aside0.mk (below_step (bf_ HB) hb); clear HO_5 HO_7 BK395 BK402 BK404 HB; have HO_5 := n0_; have HO_7 := n1_; have BK395 := n2_; have BK402 := n3_; have BK404 := n4_; have HB := n5_; clear n0_ n1_ n2_ n3_ n4_ n5_; (try clear hb); (try clear hb2); (try clear hk); (try clear hi)
               refine hK.out _ _ ⟨bt_ BK402 0, bt_ BK402 1, bt_ BK402 2, bt_ BK404 0, bt_ BK404 1, bt_ BK404 2, bt_ BK404 3, HS7_, HS8_, HS9_⟩ (fun hHeld => ?_)
               clear hK K
               refine norm_ (a' := ?_) ?_ ?_
               rotate_left
               ·show Act.put _ (some 71) _ = _
                simp only [Act.put, ls0_, ls1_, ls2_, i64_w, i32_w]
                rfl
               refine ps_ 7 64 (bs 13 8) HT_ ?_
               refine ps_ 8 72 (bs 13 9) HT_ ?_
               refine ps_ 9 73 (bs 13 10) HT_ ?_
               refine on_ 10 (some 12) (bs 13 11) HT_ (fun K hK => ?_)
               refine box_step ?hg (N := 12) ?hd (cs := #[.int .i64 0, .int .i64 0, .int .i64 0]) (t := 46) ?hr ?_; (case hd => rfl); (case hg => rfl); (case hr => first | (go_simp; done) | (go_simp; rfl))
               intro gb411 hg w72 hbox hb
               have HS7_ := hc_ hb hHeld.2.2.2.2.2.2.2.1
               have HS8_ := hc_ hb hHeld.2.2.2.2.2.2.2.2.1
               have HS9_ := hc_ hb hHeld.2.2.2.2.2.2.2.2.2
               have n0_ := Aside0.mk (Kd.R_below (Kd.R_elderB (kr_ HO_5) gb411 (Nat.le_of_eq hg.symm)) hb)
               have n1_ := Aside0.mk (Kd.Q_below (Kd.Q_elderB (by (with_reducible repeat (first | apply Kd.Q_alloc | apply Kd.Q_drewN | apply Kd.Q_drew)); exact HO_7.out) gb411 (Nat.le_of_eq hg.symm)) hb)
               have n2_ := bb_ BK395 hb; have n3_ := bb_ BK402 hb; have n4_ := bb_ BK404 hb; have n5_ := Aside0.mk (below_step (bf_ HB) hb); have n6_ := Aside0.mk (hbox); have n7_ := gw_ HB hg; have n8_ := gw_ HB hg; have n9_ := nl_ BK395 hg; have n10_ := ng_ BK395 hg; have n11_ := nl_ BK402 hg; have n12_ := ng_ BK402 hg; have n13_ := nl_ BK404 hg; have n14_ := ng_ BK404 hg; clear HO_5 HO_7 BK395 BK402 BK404 HB; have HO_5 := n0_; have HO_7 := n1_; have BK395 := n2_; have BK402 := n3_; have BK404 := n4_; have HB := n5_; have BK411 := n6_; have GW411 := n7_; have GE411 := n8_; have NB395_411 := n9_; have NB411_395 := n10_; have NB402_411 := n11_; have NB411_402 := n12_; have NB404_411 := n13_; have NB411_404 := n14_; clear n0_ n1_ n2_ n3_ n4_ n5_ n6_ n7_ n8_ n9_ n10_ n11_ n12_ n13_ n14_ hb hbox hg
               refine hK.out _ _ ⟨bt_ BK402 0, bt_ BK402 1, bt_ BK402 2, bt_ BK404 0, bt_ BK404 1, bt_ BK404 2, bt_ BK404 3, HS7_, HS8_, HS9_⟩ (fun hHeld => ?_)
               clear hK K
               refine norm_ (a' := ?_) ?_ ?_
               rotate_left
               ·show Act.put _ (some 12) _ = _
                simp only [Act.put, ls0_, ls1_, ls2_, i64_w, i32_w]
                rfl
               exact norm_ (by simp only [putAll, Act.put, ls0_, ls1_, ls2_]) (hCont (gb411) _ ⟨hHeld, (by (with_reducible repeat (first | apply Kd.R_alloc | apply Kd.R_drewN | apply Kd.R_drew)); exact Kd.R_mono HO_5.out (fun _ hk => by first | exact ⟨hk.1.1, ⟨hk.1.2.1, ⟨hk.1.2.2, hk.2⟩⟩⟩ | grind)), (by (with_reducible repeat (first | apply Kd.Q_alloc | apply Kd.Q_drewN | apply Kd.Q_drew)); exact Kd.Q_mono HO_7.out (fun _ hk => by first | exact ⟨hk.1.1, ⟨hk.1.2.1, ⟨hk.1.2.2, hk.2⟩⟩⟩ | grind)), (bk_ BK395), (bk_ BK402), (bk_ BK404), (bk_ BK411), GW411.out, GE411.out, NB395_411.out, NB411_395.out, NB402_411.out, NB411_402.out, NB404_411.out, NB411_404.out, (bf_ HB)⟩)
              ·skip
               refine box_step ?hg (N := 12) ?hd (cs := #[.int .i64 0, .int .i64 0, .int .i64 0]) (t := 46) ?hr ?_; (case hd => rfl); (case hg => rfl); (case hr => first | (go_simp; done) | (go_simp; rfl))
               intro gb411 hg w71 hbox hb
               have HS7_ := hc_ hb hHeld.2.2.2.2.2.2.2.1
               have HS8_ := hc_ hb hHeld.2.2.2.2.2.2.2.2.1
               have HS9_ := hc_ hb hHeld.2.2.2.2.2.2.2.2.2
               have n0_ := Aside0.mk (Kd.R_below (Kd.R_elderB (kr_ HO_5) gb411 (Nat.le_of_eq hg.symm)) hb)
               have n1_ := Aside0.mk (Kd.Q_below (Kd.Q_elderB (by (with_reducible repeat (first | apply Kd.Q_alloc | apply Kd.Q_drewN | apply Kd.Q_drew)); exact HO_7.out) gb411 (Nat.le_of_eq hg.symm)) hb)
               have n2_ := bb_ BK395 hb; have n3_ := bb_ BK402 hb; have n4_ := bb_ BK404 hb; have n5_ := Aside0.mk (below_step (bf_ HB) hb); have n6_ := Aside0.mk (hbox); have n7_ := gw_ HB hg; have n8_ := gw_ HB hg; have n9_ := nl_ BK395 hg; have n10_ := ng_ BK395 hg; have n11_ := nl_ BK402 hg; have n12_ := ng_ BK402 hg; have n13_ := nl_ BK404 hg; have n14_ := ng_ BK404 hg; clear HO_5 HO_7 BK395 BK402 BK404 HB; have HO_5 := n0_; have HO_7 := n1_; have BK395 := n2_; have BK402 := n3_; have BK404 := n4_; have HB := n5_; have BK411 := n6_; have GW411 := n7_; have GE411 := n8_; have NB395_411 := n9_; have NB411_395 := n10_; have NB402_411 := n11_; have NB411_402 := n12_; have NB404_411 := n13_; have NB411_404 := n14_; clear n0_ n1_ n2_ n3_ n4_ n5_ n6_ n7_ n8_ n9_ n10_ n11_ n12_ n13_ n14_ hb hbox hg
               refine hK.out _ _ ⟨bt_ BK402 0, bt_ BK402 1, bt_ BK402 2, bt_ BK404 0, bt_ BK404 1, bt_ BK404 2, bt_ BK404 3, HS7_, HS8_, HS9_⟩ (fun hHeld => ?_)
               clear hK K
               refine norm_ (a' := ?_) ?_ ?_
               rotate_left
               ·show Act.put _ (some 12) _ = _
                simp only [Act.put, ls0_, ls1_, ls2_, i64_w, i32_w]
                rfl
               refine on_ 6 (some 71) (bm 13 1151) HT_ (fun K hK => ?_)
               refine gs_ Try.func66 #[.agg #[.int .i64 x403000_1, .int .i64 x403001_1, .int .i64 x403002_1], .agg #[.int .i64 ((rd_T46 x7_1 0).f0), .int .i64 ((rd_T46 x7_1 0).f1), .int .i64 ((rd_T46 x7_1 0).f2)], .agg #[.int .i64 ((rd_T51 l0 x23_1).f1.f0), .int .i64 ((rd_T51 l0 x23_1).f1.f1), .int .i64 ((rd_T51 l0 x23_1).f1.f2)]] ?_
               with_reducible refine (impl_Settle.calls kj15 x403000_1 x403001_1 x403002_1 ((rd_T46 x7_1 0).f0) ((rd_T46 x7_1 0).f1) ((rd_T46 x7_1 0).f2) ((rd_T51 l0 x23_1).f1.f0) ((rd_T51 l0 x23_1).f1.f1) ((rd_T51 l0 x23_1).f1.f2) t407 t408 t409 false _ A46.out).mono ?_
               rintro e w72 ⟨rfl, hb⟩
               have HS7_ := hc_ hb hHeld.2.2.2.2.2.2.2.1
               have HS8_ := hc_ hb hHeld.2.2.2.2.2.2.2.2.1
               have HS9_ := hc_ hb hHeld.2.2.2.2.2.2.2.2.2
               refine ⟨_, rfl, ?_⟩
               have n0_ := Aside0.mk (Kd.R_below (kr_ HO_5) hb)
               have n1_ := Aside0.mk (Kd.Q_below (by (with_reducible repeat (first | apply Kd.Q_alloc | apply Kd.Q_drewN | apply Kd.Q_drew)); exact HO_7.out) hb)
               have n2_ := bb_ BK395 hb; have n3_ := bb_ BK402 hb; have n4_ := bb_ BK404 hb; have n5_ := bb_ BK411 hb; have n6_ := Aside0.mk (below_step (bf_ HB) hb); clear HO_5 HO_7 BK395 BK402 BK404 BK411 HB; have HO_5 := n0_; have HO_7 := n1_; have BK395 := n2_; have BK402 := n3_; have BK404 := n4_; have BK411 := n5_; have HB := n6_; clear n0_ n1_ n2_ n3_ n4_ n5_ n6_; (try clear hb); (try clear hb2); (try clear hk); (try clear hi)
               refine hK.out _ _ ⟨bt_ BK402 0, bt_ BK402 1, bt_ BK402 2, bt_ BK404 0, bt_ BK404 1, bt_ BK404 2, bt_ BK404 3, HS7_, HS8_, HS9_⟩ (fun hHeld => ?_)
               clear hK K
               refine norm_ (a' := ?_) ?_ ?_
               rotate_left
               ·show Act.put _ (some 71) _ = _
                simp only [Act.put, ls0_, ls1_, ls2_, i64_w, i32_w]
                rfl
               refine ps_ 7 64 (bm 13 1279) HT_ ?_
               refine ps_ 8 72 (bm 13 1535) HT_ ?_
               refine ps_ 9 73 (bs 13 11) HT_ ?_
               exact norm_ (by simp only [putAll, Act.put, ls0_, ls1_, ls2_]) (hCont (gb411) _ ⟨hHeld, (by (with_reducible repeat (first | apply Kd.R_alloc | apply Kd.R_drewN | apply Kd.R_drew)); exact Kd.R_mono HO_5.out (fun _ hk => by first | exact ⟨hk.1.1, ⟨hk.1.2.1, ⟨hk.1.2.2, hk.2⟩⟩⟩ | grind)), (by (with_reducible repeat (first | apply Kd.Q_alloc | apply Kd.Q_drewN | apply Kd.Q_drew)); exact Kd.Q_mono HO_7.out (fun _ hk => by first | exact ⟨hk.1.1, ⟨hk.1.2.1, ⟨hk.1.2.2, hk.2⟩⟩⟩ | grind)), (bk_ BK395), (bk_ BK402), (bk_ BK404), (bk_ BK411), GW411.out, GE411.out, NB395_411.out, NB411_395.out, NB402_411.out, NB411_402.out, NB404_411.out, NB411_404.out, (bf_ HB)⟩)
             rintro gb411 w73 ⟨hS_, h0_, h1_, h2_, h3_, h4_, h5_, h6_, h7_, h8_, h9_, h10_, h11_, h12_, h13_, h14_⟩
             have n0_ : Aside0 (Kd.R k46 46 w73 w.heap.size (fun k_ => some k_ ≠ (.slice (some ad406) x7_1.length co70 : Value).ownBlock ∧ k_ ≠ gb395 ∧ k_ ≠ gb402 ∧ k_ ≠ gb411) u5 x5_1) := ⟨h0_⟩
             have n1_ : Aside0 (Kd.Q k46 46 w73 w.heap.size (fun k_ => some k_ ≠ (u5 : Value).ownBlock ∧ k_ ≠ gb395 ∧ k_ ≠ gb402 ∧ k_ ≠ gb411) (.slice (some ad406) x7_1.length co70) x7_1) := ⟨h1_⟩
             have n2_ : Aside0 (w73.heap[gb395]? = some (.cells #[.int .i64 x396000_1, .int .i64 x396001_1, .int .i64 x396002_1] 46 (0, 0))) := ⟨h2_⟩
             have n3_ : Aside0 (w73.heap[gb402]? = some (.cells #[.int .i64 x403000_1, .int .i64 x403001_1, .int .i64 x403002_1] 46 (0, 0))) := ⟨h3_⟩
             have n4_ : Aside0 (w73.heap[gb404]? = some (.cells #[.bool ((rd_T51 l0 x23_1).f0), .int .i64 ((rd_T51 l0 x23_1).f1.f0), .int .i64 ((rd_T51 l0 x23_1).f1.f1), .int .i64 ((rd_T51 l0 x23_1).f1.f2)] 51 (0, 0))) := ⟨h4_⟩
             have n5_ : Aside0 (w73.heap[gb411]? = some (.cells #[.int .i64 0, .int .i64 0, .int .i64 0] 46 (0, 0))) := ⟨h5_⟩
             have n6_ : Aside0 (w.heap.size ≤ gb411) := ⟨h6_⟩
             have n7_ : Aside0 (w.heap.size ≤ gb411) := ⟨h7_⟩
             have n8_ : Aside0 (gb395 ≠ gb411) := ⟨h8_⟩
             have n9_ : Aside0 (gb411 ≠ gb395) := ⟨h9_⟩
             have n10_ : Aside0 (gb402 ≠ gb411) := ⟨h10_⟩
             have n11_ : Aside0 (gb411 ≠ gb402) := ⟨h11_⟩
             have n12_ : Aside0 (gb404 ≠ gb411) := ⟨h12_⟩
             have n13_ : Aside0 (gb411 ≠ gb404) := ⟨h13_⟩
             have n14_ : Aside0 (Below w.heap.size w w73) := ⟨h14_⟩
             clear HO_5 HO_7 BK395 BK402 BK404 HB h0_ h1_ h2_ h3_ h4_ h5_ h6_ h7_ h8_ h9_ h10_ h11_ h12_ h13_ h14_; have HO_5 := n0_; have HO_7 := n1_; have BK395 := n2_; have BK402 := n3_; have BK404 := n4_; have BK411 := n5_; have GW411 := n6_; have GE411 := n7_; have NB395_411 := n8_; have NB411_395 := n9_; have NB402_411 := n10_; have NB411_402 := n11_; have NB404_411 := n12_; have NB411_404 := n13_; have HB := n14_; clear n0_ n1_ n2_ n3_ n4_ n5_ n6_ n7_ n8_ n9_ n10_ n11_ n12_ n13_ n14_
             have hHeld : w73.cell? ⟨gb402, 0, none⟩ = some (.int .i64 x403000_1) ∧ w73.cell? ⟨gb402, 1, none⟩ = some (.int .i64 x403001_1) ∧ w73.cell? ⟨gb402, 2, none⟩ = some (.int .i64 x403002_1) ∧ w73.cell? ⟨gb404, 0, none⟩ = some (.bool ((rd_T51 l0 x23_1).f0)) ∧ w73.cell? ⟨gb404, 1, none⟩ = some (.int .i64 ((rd_T51 l0 x23_1).f1.f0)) ∧ w73.cell? ⟨gb404, 2, none⟩ = some (.int .i64 ((rd_T51 l0 x23_1).f1.f1)) ∧ w73.cell? ⟨gb404, 3, none⟩ = some (.int .i64 ((rd_T51 l0 x23_1).f1.f2)) ∧ w73.cell? ad406 = some (.int .i64 ((rd_T46 x7_1 0).f0)) ∧ w73.cell? ⟨ad406.block, ad406.off + 1, none⟩ = some (.int .i64 ((rd_T46 x7_1 0).f1)) ∧ w73.cell? ⟨ad406.block, ad406.off + 2, none⟩ = some (.int .i64 ((rd_T46 x7_1 0).f2)) := hS_
             refine norm_ (a' := ?_) ?_ ?_
             rotate_left
             ·simp only [putAll, Act.put, ls0_, ls1_, ls2_]
              rfl
             refine on_ 11 none (bs 13 12) HT_ (fun K hK => ?_)
             have hs74 := bc_ BK411 0 (.int .i64 0) rfl; have hfs74 := blk_frozen BK411.out 0; have hns74_0 := NB395_411.out; have hns74_1 := NB402_411.out; have hns74_2 := NB404_411.out; have hms74_0 := NB411_395.out; have hms74_1 := NB411_402.out; have hms74_2 := NB411_404.out; have hs75 := bc_ BK411 1 (.int .i64 0) rfl; have hfs75 := blk_frozen BK411.out 1; have hns75_0 := NB395_411.out; have hns75_1 := NB402_411.out; have hns75_2 := NB404_411.out; have hms75_0 := NB411_395.out; have hms75_1 := NB411_402.out; have hms75_2 := NB411_404.out; have hs76 := bc_ BK411 2 (.int .i64 0) rfl; have hfs76 := blk_frozen BK411.out 2; have hns76_0 := NB395_411.out; have hns76_1 := NB402_411.out; have hns76_2 := NB404_411.out; have hms76_0 := NB411_395.out; have hms76_1 := NB411_402.out; have hms76_2 := NB411_404.out
             refine skip_ (w1 := ?_) (by rfl) rfl ?_ ?_
             rotate_left
             ·go_simp
              rfl
             refine hK.out _ _ ⟨(cf3_ NB402_411.out hHeld.1), (cf3_ NB402_411.out hHeld.2.1), (cf3_ NB402_411.out hHeld.2.2.1), (cf3_ NB404_411.out hHeld.2.2.2.1), (cf3_ NB404_411.out hHeld.2.2.2.2.1), (cf3_ NB404_411.out hHeld.2.2.2.2.2.1), (cf3_ NB404_411.out hHeld.2.2.2.2.2.2.1), (cf3_ (by first | exact Kd.own_blk (Kd.Q_away HO_7.out (fun _ hk => by first | exact hk.2.2.2 | grind)) | (rw [add_block]; exact Kd.own_blk (Kd.Q_away HO_7.out (fun _ hk => by first | exact hk.2.2.2 | grind))) | (show (Addr.add _ _).block ≠ _; rw [add_block]; exact Kd.own_blk (Kd.Q_away HO_7.out (fun _ hk => by first | exact hk.2.2.2 | grind))) | (dsimp only; exact Kd.own_blk (Kd.Q_away HO_7.out (fun _ hk => by first | exact hk.2.2.2 | grind)))) hHeld.2.2.2.2.2.2.2.1), (cf3_ (by first | exact Kd.own_blk (Kd.Q_away HO_7.out (fun _ hk => by first | exact hk.2.2.2 | grind)) | (rw [add_block]; exact Kd.own_blk (Kd.Q_away HO_7.out (fun _ hk => by first | exact hk.2.2.2 | grind))) | (show (Addr.add _ _).block ≠ _; rw [add_block]; exact Kd.own_blk (Kd.Q_away HO_7.out (fun _ hk => by first | exact hk.2.2.2 | grind))) | (dsimp only; exact Kd.own_blk (Kd.Q_away HO_7.out (fun _ hk => by first | exact hk.2.2.2 | grind)))) hHeld.2.2.2.2.2.2.2.2.1), (cf3_ (by first | exact Kd.own_blk (Kd.Q_away HO_7.out (fun _ hk => by first | exact hk.2.2.2 | grind)) | (rw [add_block]; exact Kd.own_blk (Kd.Q_away HO_7.out (fun _ hk => by first | exact hk.2.2.2 | grind))) | (show (Addr.add _ _).block ≠ _; rw [add_block]; exact Kd.own_blk (Kd.Q_away HO_7.out (fun _ hk => by first | exact hk.2.2.2 | grind))) | (dsimp only; exact Kd.own_blk (Kd.Q_away HO_7.out (fun _ hk => by first | exact hk.2.2.2 | grind)))) hHeld.2.2.2.2.2.2.2.2.2)⟩ (fun hHeld => ?_)
             clear hK K
             refine ps_ 12 13 (bs 13 13) HT_ ?_
             refine done_ (done_of HT_.out (by kernel_rfl)) ?_
             have hnb77 := NB395_402.out; have hnc77 := NB402_395.out; have hnb78 := NB395_411.out; have hnc78 := NB411_395.out; obtain ⟨hcz79_0, hcz79_1, hcz79_2, hfz79_0, hfz79_1, hfz79_2⟩ := bz3_ BK395
             try go_wp2
             refine bodyPost_ret (results_list (rs := [.tmp 2, .cell 3 46, .tmp 4]) rfl (by simp) (.tmp (.cell gb395 46 #[.int .i64 0, .int .i64 0, .int .i64 0] (0, 0) _ rfl (by (with_reducible repeat (first | refine blk_drewN ?_ _ | refine blk_drew ?_ | refine blk_alloc ?_ _)); refine blk_put (cs := #[.int .i64 0, .int .i64 0, .int .i64 x396002_1]) ?_ 2 _ rfl; (with_reducible repeat (first | refine blk_drewN ?_ _ | refine blk_drew ?_ | refine blk_alloc ?_ _)); refine blk_put (cs := #[.int .i64 0, .int .i64 x396001_1, .int .i64 x396002_1]) ?_ 1 _ rfl; (with_reducible repeat (first | refine blk_drewN ?_ _ | refine blk_drew ?_ | refine blk_alloc ?_ _)); refine blk_put (cs := #[.int .i64 x396000_1, .int .i64 x396001_1, .int .i64 x396002_1]) ?_ 0 _ rfl; (with_reducible repeat (first | refine blk_drewN ?_ _ | refine blk_drew ?_ | refine blk_alloc ?_ _)); refine blk_far ?_ NB395_411.out _; (with_reducible repeat (first | refine blk_drewN ?_ _ | refine blk_drew ?_ | refine blk_alloc ?_ _)); refine blk_far ?_ NB395_411.out _; (with_reducible repeat (first | refine blk_drewN ?_ _ | refine blk_drew ?_ | refine blk_alloc ?_ _)); refine blk_far ?_ NB395_411.out _; exact bk_ BK395) Try.underlying46 rfl (by kernel_rfl) (.tmp .nil)))) rfl ?_
             exact ⟨_, by first | rfl | (simp [errW_none, errW_some] <;> rfl) | (simp [*, errW_none, errW_some] <;> rfl), by first | exact Kd.R_nil _ _ _ _ _ | exact Kd.N_nil _ _ _ _ _ | exact Kd.V_nil _ _ _ _ _ | exact Kd.Q_nil _ _ _ _ _ | exact Kd.S_nil _ _ _ _ _, bf_ HB⟩
           ·rw [if_neg c45] at H
            exact absurd H (by simp)
          ·rw [if_neg c44] at H
           have c44b0 : ((rd_T51 l0 x23_1).f0) = false := by simpa using c44
           clear c44
           replace H := Option.bind_eq_some_iff.mp H
           obtain ⟨⟨t415, t416, t417, t418, t419, t420⟩, A800, H⟩ := H
           replace H : ((some (([(⟨t415, t416, t417⟩ : S46)] : List (S46)) : List (S46))).bind fun y423 => (if x5_1.length + y423.length < 5864062014805 then ((some (([(⟨((rd_T51 l0 x23_1).f1.f0), ((rd_T51 l0 x23_1).f1.f1), ((rd_T51 l0 x23_1).f1.f2)⟩ : S46)] : List (S46)) : List (S46))).bind fun y429 => (if x7_1.length + y429.length < 5864062014805 then (impl_CarryRun.l0 kj15 (x5_1 ++ y423) (x7_1 ++ y429) l0 (l0.length : Int) (wrap64 (x23_1 + 1)) t418 t419 t420) else (none))) else (none))) = some (r1, r2, r3, r4, r5) := H
           have A80 := Aside0.mk A800
           clear A800
           obtain ⟨y423, hy423⟩ : ∃ y_ : List (S46), y_ = (([(⟨t415, t416, t417⟩ : S46)] : List (S46))) := ⟨_, rfl⟩
           replace H : (if x5_1.length + y423.length < 5864062014805 then ((some (([(⟨((rd_T51 l0 x23_1).f1.f0), ((rd_T51 l0 x23_1).f1.f1), ((rd_T51 l0 x23_1).f1.f2)⟩ : S46)] : List (S46)) : List (S46))).bind fun y429 => (if x7_1.length + y429.length < 5864062014805 then (impl_CarryRun.l0 kj15 (x5_1 ++ y423) (x7_1 ++ y429) l0 (l0.length : Int) (wrap64 (x23_1 + 1)) t418 t419 t420) else (none))) else (none)) = some (r1, r2, r3, r4, r5) := by first | (rw [hy423]; with_reducible exact H) | (have H2_ := (Option.bind_some _ _).symm.trans H; rw [hy423]; with_reducible exact H2_) | (have H2_ := (Option.bind_some _ _).symm.trans H; with_reducible exact H2_) | with_reducible exact H | (rw [hy423]; exact H) | exact H
           have Ny423 := Aside0.mk hy423
           clear hy423
           by_cases c81 : x5_1.length + y423.length < 5864062014805
           ·rw [if_pos c81] at H
            have LMc81 := Aside0.mk c81
            clear c81
            obtain ⟨y426, hy426⟩ : ∃ y_ : List (S46), y_ = (x5_1 ++ y423) := ⟨_, rfl⟩
            replace H : ((some (([(⟨((rd_T51 l0 x23_1).f1.f0), ((rd_T51 l0 x23_1).f1.f1), ((rd_T51 l0 x23_1).f1.f2)⟩ : S46)] : List (S46)) : List (S46))).bind fun y429 => (if x7_1.length + y429.length < 5864062014805 then (impl_CarryRun.l0 kj15 y426 (x7_1 ++ y429) l0 (l0.length : Int) (wrap64 (x23_1 + 1)) t418 t419 t420) else (none))) = some (r1, r2, r3, r4, r5) := by first | (rw [hy426]; with_reducible exact H) | (have H2_ := (Option.bind_some _ _).symm.trans H; rw [hy426]; with_reducible exact H2_) | (have H2_ := (Option.bind_some _ _).symm.trans H; with_reducible exact H2_) | with_reducible exact H | (rw [hy426]; exact H) | exact H
            have Ny426 := Aside0.mk hy426
            clear hy426
            obtain ⟨y429, hy429⟩ : ∃ y_ : List (S46), y_ = (([(⟨((rd_T51 l0 x23_1).f1.f0), ((rd_T51 l0 x23_1).f1.f1), ((rd_T51 l0 x23_1).f1.f2)⟩ : S46)] : List (S46))) := ⟨_, rfl⟩
            replace H : (if x7_1.length + y429.length < 5864062014805 then (impl_CarryRun.l0 kj15 y426 (x7_1 ++ y429) l0 (l0.length : Int) (wrap64 (x23_1 + 1)) t418 t419 t420) else (none)) = some (r1, r2, r3, r4, r5) := by first | (rw [hy429]; with_reducible exact H) | (have H2_ := (Option.bind_some _ _).symm.trans H; rw [hy429]; with_reducible exact H2_) | (have H2_ := (Option.bind_some _ _).symm.trans H; with_reducible exact H2_) | with_reducible exact H | (rw [hy429]; exact H) | exact H
            have Ny429 := Aside0.mk hy429
            clear hy429
            by_cases c82 : x7_1.length + y429.length < 5864062014805
            ·rw [if_pos c82] at H
             have LMc82 := Aside0.mk c82
             clear c82
             obtain ⟨y432, hy432⟩ : ∃ y_ : List (S46), y_ = (x7_1 ++ y429) := ⟨_, rfl⟩
             replace H : (impl_CarryRun.l0 kj15 y426 y432 l0 (l0.length : Int) (wrap64 (x23_1 + 1)) t418 t419 t420) = some (r1, r2, r3, r4, r5) := by first | (rw [hy432]; with_reducible exact H) | (have H2_ := (Option.bind_some _ _).symm.trans H; rw [hy432]; with_reducible exact H2_) | (have H2_ := (Option.bind_some _ _).symm.trans H; with_reducible exact H2_) | with_reducible exact H | (rw [hy432]; exact H) | exact H
             have Ny432 := Aside0.mk hy432
             clear hy432
             have H' := Aside0.mk H
             clear H; have hnb83 := NB404_395.out; have hnc83 := NB395_404.out; have hnb84 := NB404_402.out; have hnc84 := NB402_404.out
             have hcz85_0 : wc.cell? ⟨gb404, 0, none⟩ = some (.bool ((rd_T51 l0 x23_1).f0)) := (blk_cell BK404.out 0).trans rfl
             have hcz85_1 : wc.cell? ⟨gb404, 1, none⟩ = some (.int .i64 ((rd_T51 l0 x23_1).f1.f0)) := (blk_cell BK404.out 1).trans rfl
             have hcz85_2 : wc.cell? ⟨gb404, 2, none⟩ = some (.int .i64 ((rd_T51 l0 x23_1).f1.f1)) := (blk_cell BK404.out 2).trans rfl
             have hcz85_3 : wc.cell? ⟨gb404, 3, none⟩ = some (.int .i64 ((rd_T51 l0 x23_1).f1.f2)) := (blk_cell BK404.out 3).trans rfl
             have hfz85_0 := blk_frozen BK404.out 0; have hfz85_1 := blk_frozen BK404.out 1; have hfz85_2 := blk_frozen BK404.out 2; have hfz85_3 := blk_frozen BK404.out 3; have hnb86 := NB402_395.out; have hnc86 := NB395_402.out; obtain ⟨hcz87_0, hcz87_1, hcz87_2, hfz87_0, hfz87_1, hfz87_2⟩ := bz3_ BK402
             try go_wp2_with (first | ((with_reducible refine gc_ 65 rfl ?_); refine gl_ 51 Try.func65 #[.agg #[.int .i64 ((rd_T51 l0 x23_1).f1.f0), .int .i64 ((rd_T51 l0 x23_1).f1.f1), .int .i64 ((rd_T51 l0 x23_1).f1.f2)], .agg #[.int .i64 x403000_1, .int .i64 x403001_1, .int .i64 x403002_1]] ?_; (with_reducible refine (impl_Charge.calls kj15 ((rd_T51 l0 x23_1).f1.f0) ((rd_T51 l0 x23_1).f1.f1) ((rd_T51 l0 x23_1).f1.f2) x403000_1 x403001_1 x403002_1 t415 t416 t417 t418 t419 t420 _ A80.out).mono ?_); rintro e w88 ⟨rfl, hb⟩; refine ⟨_, rfl, ?_⟩; replace HO_5 := Aside0.mk (Kd.R_below (kr_ HO_5) hb); replace HO_7 := Aside0.mk (Kd.Q_below (by (with_reducible repeat (first | apply Kd.Q_alloc | apply Kd.Q_drewN | apply Kd.Q_drew)); exact HO_7.out) hb); replace BK395 := bb_ BK395 hb; replace BK402 := bb_ BK402 hb; replace BK404 := bb_ BK404 hb; replace HB := Aside0.mk (below_step (bf_ HB) hb); (try clear hb); (try clear hb2); (try clear hk); (try clear hi)) | ((with_reducible refine gd_ 10 rfl ?_); (try (refine gate_guard (by rfl) ?_; dsimp only)); refine bv_ 10 #[.int .i64 0, .int .i64 0, .int .i64 0] 46 ?_; intro gb421 hg w89 hbox hb; replace HO_5 := Aside0.mk (Kd.R_below (Kd.R_elderB (kr_ HO_5) gb421 (Nat.le_of_eq hg.symm)) hb); replace HO_7 := Aside0.mk (Kd.Q_below (Kd.Q_elderB (by (with_reducible repeat (first | apply Kd.Q_alloc | apply Kd.Q_drewN | apply Kd.Q_drew)); exact HO_7.out) gb421 (Nat.le_of_eq hg.symm)) hb); have BK421 := Aside0.mk (hbox); have GW421 := gw_ HB hg; have GE421 := gw_ HB hg; replace HB := Aside0.mk (below_step (bf_ HB) hb); have NB395_421 := nl_ BK395 hg; have NB421_395 := ng_ BK395 hg; replace BK395 := bb_ BK395 hb; have NB402_421 := nl_ BK402 hg; have NB421_402 := ng_ BK402 hg; replace BK402 := bb_ BK402 hb; have NB404_421 := nl_ BK404 hg; have NB421_404 := ng_ BK404 hg; replace BK404 := bb_ BK404 hb; clear hb hbox hg) | ((with_reducible refine gd_ 11 rfl ?_); (try (refine gate_guard (by rfl) ?_; dsimp only)); refine bv_ 11 #[.int .i64 0, .int .i64 0, .int .i64 0] 46 ?_; intro gb422 hg w90 hbox hb; replace HO_5 := Aside0.mk (Kd.R_below (Kd.R_elderB (kr_ HO_5) gb422 (Nat.le_of_eq hg.symm)) hb); replace HO_7 := Aside0.mk (Kd.Q_below (Kd.Q_elderB (by (with_reducible repeat (first | apply Kd.Q_alloc | apply Kd.Q_drewN | apply Kd.Q_drew)); exact HO_7.out) gb422 (Nat.le_of_eq hg.symm)) hb); have BK422 := Aside0.mk (hbox); have GW422 := gw_ HB hg; have GE422 := gw_ HB hg; replace HB := Aside0.mk (below_step (bf_ HB) hb); have NB395_422 := nl_ BK395 hg; have NB422_395 := ng_ BK395 hg; replace BK395 := bb_ BK395 hb; have NB402_422 := nl_ BK402 hg; have NB422_402 := ng_ BK402 hg; replace BK402 := bb_ BK402 hb; have NB404_422 := nl_ BK404 hg; have NB422_404 := ng_ BK404 hg; replace BK404 := bb_ BK404 hb; have NB421_422 := nl_ BK421 hg; have NB422_421 := ng_ BK421 hg; replace BK421 := bb_ BK421 hb; clear hb hbox hg; have hnb91 := NB421_395.out; have hnc91 := NB395_421.out; have hnb92 := NB421_402.out; have hnc92 := NB402_421.out; have hnb93 := NB421_404.out; have hnc93 := NB404_421.out; have hnb94 := NB421_422.out; have hnc94 := NB422_421.out; obtain ⟨hcz95_0, hcz95_1, hcz95_2, hfz95_0, hfz95_1, hfz95_2⟩ := bz3_ BK421; have hnb96 := NB422_395.out; have hnc96 := NB395_422.out; have hnb97 := NB422_402.out; have hnc97 := NB402_422.out; have hnb98 := NB422_404.out; have hnc98 := NB404_422.out; obtain ⟨hcz99_0, hcz99_1, hcz99_2, hfz99_0, hfz99_1, hfz99_2⟩ := bz3_ BK422; obtain ⟨Ao100, co100, eo100⟩ := Kd.R_slice HO_5.out; subst eo100; obtain ⟨Ao101, co101, eo101, _⟩ := Kd.Q_slice HO_7.out; subst eo101))
             generalize hW_ : ((((((w90.setCell ⟨gb421, 0, none⟩ (.int .i64 t415)).setCell ⟨gb421, 1, none⟩ (.int .i64 t416)).setCell ⟨gb421, 2, none⟩ (.int .i64 t417)).setCell ⟨gb422, 0, none⟩ (.int .i64 t418)).setCell ⟨gb422, 1, none⟩ (.int .i64 t419)).setCell ⟨gb422, 2, none⟩ (.int .i64 t420)) = w102
             replace HO_5 : Aside0 (Kd.R k46 46 w102 w.heap.size (fun k_ => some k_ ≠ (.slice Ao101 x7_1.length co101 : Value).ownBlock ∧ k_ ≠ gb395 ∧ k_ ≠ gb402 ∧ k_ ≠ gb421 ∧ k_ ≠ gb422) (.slice Ao100 x5_1.length co100) x5_1) := ⟨by cases hW_; (with_reducible repeat (first | apply Kd.R_alloc | apply Kd.R_drewN | apply Kd.R_drew)); exact Kd.R_mono (Kd.R_far (p := ⟨gb422, 2, none⟩) (Kd.R_far (p := ⟨gb422, 1, none⟩) (Kd.R_far (p := ⟨gb422, 0, none⟩) (Kd.R_far (p := ⟨gb421, 2, none⟩) (Kd.R_far (p := ⟨gb421, 1, none⟩) (Kd.R_far (p := ⟨gb421, 0, none⟩) (Kd.R_mono (Kd.R_mono HO_5.out (fun k_ hk => by first | exact (⟨hk, hk.1.2⟩ : _ ∧ k_ ≠ gb421) | grind)) (fun k_ hk => by first | exact (⟨hk, hk.1.2⟩ : _ ∧ k_ ≠ gb422) | grind)) (fun _ hk => by first | exact hk.1.2 | grind) (.int .i64 t415)) (fun _ hk => by first | exact hk.1.2 | grind) (.int .i64 t416)) (fun _ hk => by first | exact hk.1.2 | grind) (.int .i64 t417)) (fun _ hk => by first | exact hk.2 | grind) (.int .i64 t418)) (fun _ hk => by first | exact hk.2 | grind) (.int .i64 t419)) (fun _ hk => by first | exact hk.2 | grind) (.int .i64 t420)) (fun _ hk => by first | exact ⟨hk.1.1.1.1.1, ⟨hk.1.1.1.1.2.1, ⟨hk.1.1.1.1.2.2, ⟨hk.1.1.1.2, hk.1.1.2⟩⟩⟩⟩ | grind)⟩
             replace HO_7 : Aside0 (Kd.Q k46 46 w102 w.heap.size (fun k_ => some k_ ≠ (.slice Ao100 x5_1.length co100 : Value).ownBlock ∧ k_ ≠ gb395 ∧ k_ ≠ gb402 ∧ k_ ≠ gb421 ∧ k_ ≠ gb422) (.slice Ao101 x7_1.length co101) x7_1) := ⟨by cases hW_; (with_reducible repeat (first | apply Kd.Q_alloc | apply Kd.Q_drewN | apply Kd.Q_drew)); exact Kd.Q_mono (Kd.Q_far (p := ⟨gb422, 2, none⟩) (Kd.Q_far (p := ⟨gb422, 1, none⟩) (Kd.Q_far (p := ⟨gb422, 0, none⟩) (Kd.Q_far (p := ⟨gb421, 2, none⟩) (Kd.Q_far (p := ⟨gb421, 1, none⟩) (Kd.Q_far (p := ⟨gb421, 0, none⟩) (Kd.Q_mono (Kd.Q_mono HO_7.out (fun k_ hk => by first | exact (⟨hk, hk.1.2⟩ : _ ∧ k_ ≠ gb421) | grind)) (fun k_ hk => by first | exact (⟨hk, hk.1.2⟩ : _ ∧ k_ ≠ gb422) | grind)) (fun _ hk => by first | exact hk.1.2 | grind) (.int .i64 t415)) (fun _ hk => by first | exact hk.1.2 | grind) (.int .i64 t416)) (fun _ hk => by first | exact hk.1.2 | grind) (.int .i64 t417)) (fun _ hk => by first | exact hk.2 | grind) (.int .i64 t418)) (fun _ hk => by first | exact hk.2 | grind) (.int .i64 t419)) (fun _ hk => by first | exact hk.2 | grind) (.int .i64 t420)) (fun _ hk => by first | exact ⟨hk.1.1.1.1.1, ⟨hk.1.1.1.1.2.1, ⟨hk.1.1.1.1.2.2, ⟨hk.1.1.1.2, hk.1.1.2⟩⟩⟩⟩ | grind)⟩
             replace BK395 : Aside0 (w102.heap[gb395]? = some (.cells #[.int .i64 x396000_1, .int .i64 x396001_1, .int .i64 x396002_1] 46 (0, 0))) := ⟨by cases hW_; (with_reducible repeat (first | refine blk_drewN ?_ _ | refine blk_drew ?_ | refine blk_alloc ?_ _)); refine blk_far ?_ NB395_422.out _; (with_reducible repeat (first | refine blk_drewN ?_ _ | refine blk_drew ?_ | refine blk_alloc ?_ _)); refine blk_far ?_ NB395_422.out _; (with_reducible repeat (first | refine blk_drewN ?_ _ | refine blk_drew ?_ | refine blk_alloc ?_ _)); refine blk_far ?_ NB395_422.out _; (with_reducible repeat (first | refine blk_drewN ?_ _ | refine blk_drew ?_ | refine blk_alloc ?_ _)); refine blk_far ?_ NB395_421.out _; (with_reducible repeat (first | refine blk_drewN ?_ _ | refine blk_drew ?_ | refine blk_alloc ?_ _)); refine blk_far ?_ NB395_421.out _; (with_reducible repeat (first | refine blk_drewN ?_ _ | refine blk_drew ?_ | refine blk_alloc ?_ _)); refine blk_far ?_ NB395_421.out _; exact bk_ BK395⟩
             replace BK402 : Aside0 (w102.heap[gb402]? = some (.cells #[.int .i64 x403000_1, .int .i64 x403001_1, .int .i64 x403002_1] 46 (0, 0))) := ⟨by cases hW_; (with_reducible repeat (first | refine blk_drewN ?_ _ | refine blk_drew ?_ | refine blk_alloc ?_ _)); refine blk_far ?_ NB402_422.out _; (with_reducible repeat (first | refine blk_drewN ?_ _ | refine blk_drew ?_ | refine blk_alloc ?_ _)); refine blk_far ?_ NB402_422.out _; (with_reducible repeat (first | refine blk_drewN ?_ _ | refine blk_drew ?_ | refine blk_alloc ?_ _)); refine blk_far ?_ NB402_422.out _; (with_reducible repeat (first | refine blk_drewN ?_ _ | refine blk_drew ?_ | refine blk_alloc ?_ _)); refine blk_far ?_ NB402_421.out _; (with_reducible repeat (first | refine blk_drewN ?_ _ | refine blk_drew ?_ | refine blk_alloc ?_ _)); refine blk_far ?_ NB402_421.out _; (with_reducible repeat (first | refine blk_drewN ?_ _ | refine blk_drew ?_ | refine blk_alloc ?_ _)); refine blk_far ?_ NB402_421.out _; exact bk_ BK402⟩
             replace BK404 : Aside0 (w102.heap[gb404]? = some (.cells #[.bool ((rd_T51 l0 x23_1).f0), .int .i64 ((rd_T51 l0 x23_1).f1.f0), .int .i64 ((rd_T51 l0 x23_1).f1.f1), .int .i64 ((rd_T51 l0 x23_1).f1.f2)] 51 (0, 0))) := ⟨by cases hW_; (with_reducible repeat (first | refine blk_drewN ?_ _ | refine blk_drew ?_ | refine blk_alloc ?_ _)); refine blk_far ?_ NB404_422.out _; (with_reducible repeat (first | refine blk_drewN ?_ _ | refine blk_drew ?_ | refine blk_alloc ?_ _)); refine blk_far ?_ NB404_422.out _; (with_reducible repeat (first | refine blk_drewN ?_ _ | refine blk_drew ?_ | refine blk_alloc ?_ _)); refine blk_far ?_ NB404_422.out _; (with_reducible repeat (first | refine blk_drewN ?_ _ | refine blk_drew ?_ | refine blk_alloc ?_ _)); refine blk_far ?_ NB404_421.out _; (with_reducible repeat (first | refine blk_drewN ?_ _ | refine blk_drew ?_ | refine blk_alloc ?_ _)); refine blk_far ?_ NB404_421.out _; (with_reducible repeat (first | refine blk_drewN ?_ _ | refine blk_drew ?_ | refine blk_alloc ?_ _)); refine blk_far ?_ NB404_421.out _; exact bk_ BK404⟩
             replace BK421 : Aside0 (w102.heap[gb421]? = some (.cells #[.int .i64 t415, .int .i64 t416, .int .i64 t417] 46 (0, 0))) := ⟨by cases hW_; (with_reducible repeat (first | refine blk_drewN ?_ _ | refine blk_drew ?_ | refine blk_alloc ?_ _)); refine blk_far ?_ NB421_422.out _; (with_reducible repeat (first | refine blk_drewN ?_ _ | refine blk_drew ?_ | refine blk_alloc ?_ _)); refine blk_far ?_ NB421_422.out _; (with_reducible repeat (first | refine blk_drewN ?_ _ | refine blk_drew ?_ | refine blk_alloc ?_ _)); refine blk_far ?_ NB421_422.out _; (with_reducible repeat (first | refine blk_drewN ?_ _ | refine blk_drew ?_ | refine blk_alloc ?_ _)); refine blk_put (cs := #[.int .i64 t415, .int .i64 t416, .int .i64 0]) ?_ 2 _ rfl; (with_reducible repeat (first | refine blk_drewN ?_ _ | refine blk_drew ?_ | refine blk_alloc ?_ _)); refine blk_put (cs := #[.int .i64 t415, .int .i64 0, .int .i64 0]) ?_ 1 _ rfl; (with_reducible repeat (first | refine blk_drewN ?_ _ | refine blk_drew ?_ | refine blk_alloc ?_ _)); refine blk_put (cs := #[.int .i64 0, .int .i64 0, .int .i64 0]) ?_ 0 _ rfl; exact bk_ BK421⟩
             replace BK422 : Aside0 (w102.heap[gb422]? = some (.cells #[.int .i64 t418, .int .i64 t419, .int .i64 t420] 46 (0, 0))) := ⟨by cases hW_; (with_reducible repeat (first | refine blk_drewN ?_ _ | refine blk_drew ?_ | refine blk_alloc ?_ _)); refine blk_put (cs := #[.int .i64 t418, .int .i64 t419, .int .i64 0]) ?_ 2 _ rfl; (with_reducible repeat (first | refine blk_drewN ?_ _ | refine blk_drew ?_ | refine blk_alloc ?_ _)); refine blk_put (cs := #[.int .i64 t418, .int .i64 0, .int .i64 0]) ?_ 1 _ rfl; (with_reducible repeat (first | refine blk_drewN ?_ _ | refine blk_drew ?_ | refine blk_alloc ?_ _)); refine blk_put (cs := #[.int .i64 0, .int .i64 0, .int .i64 0]) ?_ 0 _ rfl; (with_reducible repeat (first | refine blk_drewN ?_ _ | refine blk_drew ?_ | refine blk_alloc ?_ _)); refine blk_far ?_ NB422_421.out _; (with_reducible repeat (first | refine blk_drewN ?_ _ | refine blk_drew ?_ | refine blk_alloc ?_ _)); refine blk_far ?_ NB422_421.out _; (with_reducible repeat (first | refine blk_drewN ?_ _ | refine blk_drew ?_ | refine blk_alloc ?_ _)); refine blk_far ?_ NB422_421.out _; exact bk_ BK422⟩
             replace HB : Aside0 (Below w.heap.size w w102) := ⟨by cases hW_; exact bf_ HB⟩
             clear hW_; replace HO_5 := Aside0.mk (Kd.R_drew HO_5.out); replace HO_7 := Aside0.mk (Kd.Q_drew HO_7.out); replace BK395 := Aside0.mk (blk_drew BK395.out); replace BK402 := Aside0.mk (blk_drew BK402.out); replace BK404 := Aside0.mk (blk_drew BK404.out); replace BK421 := Aside0.mk (blk_drew BK421.out); replace BK422 := Aside0.mk (blk_drew BK422.out); replace HB := Aside0.mk (below_drew1 HB.out)
             refine start_ (n := 13) (S := fun w' => cw_ w' gb421 0 (.int .i64 t415) ∧ cw_ w' gb421 1 (.int .i64 t416) ∧ cw_ w' gb421 2 (.int .i64 t417) ∧ cw_ w' gb404 0 (.bool ((rd_T51 l0 x23_1).f0)) ∧ cw_ w' gb404 1 (.int .i64 ((rd_T51 l0 x23_1).f1.f0)) ∧ cw_ w' gb404 2 (.int .i64 ((rd_T51 l0 x23_1).f1.f1)) ∧ cw_ w' gb404 3 (.int .i64 ((rd_T51 l0 x23_1).f1.f2)) ∧ cw_ w' gb422 0 (.int .i64 t418) ∧ cw_ w' gb422 1 (.int .i64 t419) ∧ cw_ w' gb422 2 (.int .i64 t420)) (ds := []) (bs 13 0) (by kernel_rfl) rfl rfl ⟨bt_ BK421 0, bt_ BK421 1, bt_ BK421 2, bt_ BK404 0, bt_ BK404 1, bt_ BK404 2, bt_ BK404 3, bt_ BK422 0, bt_ BK422 1, bt_ BK422 2⟩ (fun hHeld => ?_); refine with_tabW impl_CarryRun.tab11 impl_CarryRun.bits11 (fun HT_ HW_ => ?_)
             generalize w102.drew = w103 at HO_5 HO_7 BK395 BK402 BK404 BK421 BK422 HB hHeld ⊢
             refine ps_ 0 54 (bs 13 1) HT_ ?_
             refine ps_ 4 58 (bm 13 17) HT_ ?_
             refine ps_ 5 59 (bm 13 49) HT_ ?_
             refine tk_ 1 55 (bm 13 51) HT_ HW_ hHeld ?_
             refine tk_ 6 60 (bm 13 115) HT_ HW_ hHeld ?_
             refine tk_ 9 63 (bm 13 627) HT_ HW_ hHeld ?_
             refine join_ (σ := Value × Value × Value) 4 (bm 13 767) (fun s_ => [(56, s_.1), (57, s_.2.1), (61, s_.2.2)]) (fun s_ w' => (w'.cell? ⟨gb421, 0, none⟩ = some (.int .i64 t415) ∧ w'.cell? ⟨gb421, 1, none⟩ = some (.int .i64 t416) ∧ w'.cell? ⟨gb421, 2, none⟩ = some (.int .i64 t417) ∧ w'.cell? ⟨gb404, 0, none⟩ = some (.bool ((rd_T51 l0 x23_1).f0)) ∧ w'.cell? ⟨gb404, 1, none⟩ = some (.int .i64 ((rd_T51 l0 x23_1).f1.f0)) ∧ w'.cell? ⟨gb404, 2, none⟩ = some (.int .i64 ((rd_T51 l0 x23_1).f1.f1)) ∧ w'.cell? ⟨gb404, 3, none⟩ = some (.int .i64 ((rd_T51 l0 x23_1).f1.f2)) ∧ w'.cell? ⟨gb422, 0, none⟩ = some (.int .i64 t418) ∧ w'.cell? ⟨gb422, 1, none⟩ = some (.int .i64 t419) ∧ w'.cell? ⟨gb422, 2, none⟩ = some (.int .i64 t420)) ∧ (Kd.R k46 46 w' w.heap.size (fun k_ => some k_ ≠ (s_.2.1 : Value).ownBlock ∧ some k_ ≠ (s_.2.2 : Value).ownBlock ∧ some k_ ≠ (.slice Ao101 x7_1.length co101 : Value).ownBlock ∧ k_ ≠ gb395 ∧ k_ ≠ gb402 ∧ k_ ≠ gb421 ∧ k_ ≠ gb422) s_.1 y423) ∧ (Kd.R k46 46 w' w.heap.size (fun k_ => some k_ ≠ (s_.1 : Value).ownBlock ∧ some k_ ≠ (s_.2.2 : Value).ownBlock ∧ some k_ ≠ (.slice Ao101 x7_1.length co101 : Value).ownBlock ∧ k_ ≠ gb395 ∧ k_ ≠ gb402 ∧ k_ ≠ gb421 ∧ k_ ≠ gb422) s_.2.1 y426) ∧ (Kd.R k46 46 w' w.heap.size (fun k_ => some k_ ≠ (s_.1 : Value).ownBlock ∧ some k_ ≠ (s_.2.1 : Value).ownBlock ∧ some k_ ≠ (.slice Ao101 x7_1.length co101 : Value).ownBlock ∧ k_ ≠ gb395 ∧ k_ ≠ gb402 ∧ k_ ≠ gb421 ∧ k_ ≠ gb422) s_.2.2 y429) ∧ (Kd.Q k46 46 w' w.heap.size (fun k_ => some k_ ≠ (s_.1 : Value).ownBlock ∧ some k_ ≠ (s_.2.1 : Value).ownBlock ∧ some k_ ≠ (s_.2.2 : Value).ownBlock ∧ k_ ≠ gb395 ∧ k_ ≠ gb402 ∧ k_ ≠ gb421 ∧ k_ ≠ gb422) (.slice Ao101 x7_1.length co101) x7_1) ∧ (w'.heap[gb395]? = some (.cells #[.int .i64 x396000_1, .int .i64 x396001_1, .int .i64 x396002_1] 46 (0, 0))) ∧ (w'.heap[gb402]? = some (.cells #[.int .i64 x403000_1, .int .i64 x403001_1, .int .i64 x403002_1] 46 (0, 0))) ∧ (w'.heap[gb404]? = some (.cells #[.bool ((rd_T51 l0 x23_1).f0), .int .i64 ((rd_T51 l0 x23_1).f1.f0), .int .i64 ((rd_T51 l0 x23_1).f1.f1), .int .i64 ((rd_T51 l0 x23_1).f1.f2)] 51 (0, 0))) ∧ (w'.heap[gb421]? = some (.cells #[.int .i64 t415, .int .i64 t416, .int .i64 t417] 46 (0, 0))) ∧ (w'.heap[gb422]? = some (.cells #[.int .i64 t418, .int .i64 t419, .int .i64 t420] 46 (0, 0))) ∧ (Below w.heap.size w w')) ?_ ?_
             rotate_left
             ·intro hCont
              refine two_ (i := 2) (j := 7) (Ni := some 56) (Nj := some 61) (bm 13 631) (bm 13 755) rfl rfl rfl rfl (two_of HT_.out (by kernel_rfl)) (by decide) (by decide) (fun K hK => ?_) (fun K hK => ?_)
              ·skip
               refine Kd.R_lit_step k46 _ 46 ?hg (N := 56) ?hd (xs := ([(⟨t415, t416, t417⟩ : S46)] : List (S46))) (inner := [.int .i64 t415, .int .i64 t416, .int .i64 t417]) (ok := fun _ => True) (okp := fun _ => True) ?hr ?hp (fun _ hk => by first | exact hk | grind) trivial (Below.refl _ _) (Nat.le_refl _) (by simp) ?_; (case hd => rfl); (case hg => rfl); (case hr => first | (go_simp; done) | (go_simp; rfl)); (case hp => exact (Reps.c3 (show Kd.M k46 _ _ _ (⟨t415, t416, t417⟩ : S46) [.int .i64 t415, .int .i64 t416, .int .i64 t417] from (k46_mkM _ _ _ (⟨t415, t416, t417⟩ : S46) )) (Reps.none _ _)))
               intro v424 w104 ho105 hb hg_ hnew_
               clear hg_ hnew_
               (first | rw [← Ny423.out] at ho105 | (simp only [Int.reduceToNat] at ho105; rw [← Ny423.out] at ho105))
               have n0_ := Aside0.mk (Kd.R_elder' (kr_ HO_5) (Kd.R_base ho105) hb)
               have n1_ := Aside0.mk (Kd.Q_elder' (by (with_reducible repeat (first | apply Kd.Q_alloc | apply Kd.Q_drewN | apply Kd.Q_drew)); exact HO_7.out) (Kd.R_base ho105) hb)
               have n2_ := Aside0.mk (Kd.R_lower (Kd.R_newB (Kd.R_newB (Kd.R_newB (Kd.R_newB (Kd.R_new' (Kd.R_new' ho105 (Kd.R_lt (kr_ HO_5))) (Kd.Q_lt (by (with_reducible repeat (first | apply Kd.Q_alloc | apply Kd.Q_drewN | apply Kd.Q_drew)); exact HO_7.out))) (g := gb395) (o := .cells #[.int .i64 x396000_1, .int .i64 x396001_1, .int .i64 x396002_1] 46 (0, 0)) (bk_ BK395)) (g := gb402) (o := .cells #[.int .i64 x403000_1, .int .i64 x403001_1, .int .i64 x403002_1] 46 (0, 0)) (bk_ BK402)) (g := gb421) (o := .cells #[.int .i64 t415, .int .i64 t416, .int .i64 t417] 46 (0, 0)) (bk_ BK421)) (g := gb422) (o := .cells #[.int .i64 t418, .int .i64 t419, .int .i64 t420] 46 (0, 0)) (bk_ BK422)) (below_size (bf_ HB)))
               have n3_ := bb_ BK395 hb; have n4_ := bb_ BK402 hb; have n5_ := bb_ BK404 hb; have n6_ := bb_ BK421 hb; have n7_ := bb_ BK422 hb; have n8_ := Aside0.mk (below_step (bf_ HB) hb); clear HO_5 HO_7 BK395 BK402 BK404 BK421 BK422 HB; have HO_5 := n0_; have HO_7 := n1_; have HO425 := n2_; have BK395 := n3_; have BK402 := n4_; have BK404 := n5_; have BK421 := n6_; have BK422 := n7_; have HB := n8_; clear n0_ n1_ n2_ n3_ n4_ n5_ n6_ n7_ n8_ hb ho105
               obtain ⟨Ao107, co107, eo107⟩ := Kd.R_slice HO425.out
               (first | subst eo107 | (injection eo107 with f1_ f2_ f3_; have f4_ := f1_.symm; have f5_ := f3_.symm; clear f1_ f2_ f3_; subst f4_; subst f5_))
               refine hK.out _ _ ⟨bt_ BK421 0, bt_ BK421 1, bt_ BK421 2, bt_ BK404 0, bt_ BK404 1, bt_ BK404 2, bt_ BK404 3, bt_ BK422 0, bt_ BK422 1, bt_ BK422 2⟩ (fun hHeld => ?_)
               clear hK K
               refine norm_ (a' := ?_) ?_ ?_
               rotate_left
               ·show Act.put _ (some 56) _ = _
                simp only [Act.put, ls0_, ls1_, ls2_, i64_w, i32_w]
                rfl
               refine two_ (i := 3) (j := 7) (Ni := some 57) (Nj := some 61) (bm 13 639) (bm 13 759) rfl rfl rfl rfl (two_of HT_.out (by kernel_rfl)) (by decide) (by decide) (fun K hK => ?_) (fun K hK => ?_)
               ·skip
                refine Kd.R_append_rows_step k46 (w0 := w) w.heap.size (by rfl) (.tmp 54) (.tmp 56) 44 46 (.agg #[(.int .i64 0), (.int .i64 0), (.int .i64 0)]) 24 rfl Try.underlying44 info46 rfl (by decide) (by omega) (.slice Ao100 x5_1.length co100) x5_1 y423 _ _ _ (fun k_ => some k_ ≠ (.slice Ao101 x7_1.length co101 : Value).ownBlock ∧ some k_ ≠ (.slice Ao107 y423.length co107 : Value).ownBlock ∧ k_ ≠ gb395 ∧ k_ ≠ gb402 ∧ k_ ≠ gb421 ∧ k_ ≠ gb422) (fun _ => False) rfl rfl ?aO ?aR (fun _ _ h => h) (fun _ h => h.elim) ?aF ?aB ?aS ?aL ?_
                (case aR => exact cr_ HO425)
                (case aB => exact (bf_ HB))
                (case aF => exact (fun k_ hk => by first | exact ⟨Kd.fresh' (Kd.Q_lt (by (with_reducible repeat (first | apply Kd.Q_alloc | apply Kd.Q_drewN | apply Kd.Q_drew)); exact HO_7.out)) k_ hk, Kd.fresh' (Kd.R_lt (kr_ HO425)) k_ hk, Kd.freshB (g := gb395) (o := .cells #[.int .i64 x396000_1, .int .i64 x396001_1, .int .i64 x396002_1] 46 (0, 0)) (bk_ BK395) k_ hk, Kd.freshB (g := gb402) (o := .cells #[.int .i64 x403000_1, .int .i64 x403001_1, .int .i64 x403002_1] 46 (0, 0)) (bk_ BK402) k_ hk, Kd.freshB (g := gb421) (o := .cells #[.int .i64 t415, .int .i64 t416, .int .i64 t417] 46 (0, 0)) (bk_ BK421) k_ hk, Kd.freshB (g := gb422) (o := .cells #[.int .i64 t418, .int .i64 t419, .int .i64 t420] 46 (0, 0)) (bk_ BK422) k_ hk⟩ | grind))
                (case aO => exact (by (with_reducible repeat (first | apply Kd.R_alloc | apply Kd.R_drewN | apply Kd.R_drew)); exact Kd.R_mono HO_5.out (fun _ hk => by first | exact ⟨hk.1.1, ⟨hk.2, ⟨hk.1.2.1, ⟨hk.1.2.2.1, ⟨hk.1.2.2.2.1, hk.1.2.2.2.2⟩⟩⟩⟩⟩ | grind)))
                (case aS => exact (below_size (bf_ HB)))
                (case aL => have := LMc81.out; omega)
                intro v427 w106 ho hb hg hat
                rw [← Ny426.out] at ho
                have n0_ := Aside0.mk (Kd.Q_after (ok := (fun k_ => some k_ ≠ (.slice Ao107 y423.length co107 : Value).ownBlock ∧ k_ ≠ gb395 ∧ k_ ≠ gb402 ∧ k_ ≠ gb421 ∧ k_ ≠ gb422)) (by (with_reducible repeat (first | apply Kd.Q_alloc | apply Kd.Q_drewN | apply Kd.Q_drew)); exact Kd.Q_mono HO_7.out (fun _ hk => by first | exact ⟨⟨hk.2, ⟨hk.1.2.1, ⟨hk.1.2.2.1, ⟨hk.1.2.2.2.1, hk.1.2.2.2.2⟩⟩⟩⟩, hk.1.1⟩ | grind)) hg hat)
                have n1_ := Aside0.mk (blk_grown (g := gb395) (o := .cells #[.int .i64 x396000_1, .int .i64 x396001_1, .int .i64 x396002_1] 46 (0, 0)) (bk_ BK395) hg (Kd.R_away HO_5.out (fun _ hk => by first | exact hk.1.2.1 | grind)))
                have n2_ := Aside0.mk (blk_grown (g := gb402) (o := .cells #[.int .i64 x403000_1, .int .i64 x403001_1, .int .i64 x403002_1] 46 (0, 0)) (bk_ BK402) hg (Kd.R_away HO_5.out (fun _ hk => by first | exact hk.1.2.2.1 | grind)))
                have n3_ := Aside0.mk (blk_grown (g := gb404) (o := .cells #[.bool ((rd_T51 l0 x23_1).f0), .int .i64 ((rd_T51 l0 x23_1).f1.f0), .int .i64 ((rd_T51 l0 x23_1).f1.f1), .int .i64 ((rd_T51 l0 x23_1).f1.f2)] 51 (0, 0)) (bk_ BK404) hg (Kd.R_ne HO_5.out BK404.out (by decide)))
                have n4_ := Aside0.mk (blk_grown (g := gb421) (o := .cells #[.int .i64 t415, .int .i64 t416, .int .i64 t417] 46 (0, 0)) (bk_ BK421) hg (Kd.R_away HO_5.out (fun _ hk => by first | exact hk.1.2.2.2.1 | grind)))
                have n5_ := Aside0.mk (blk_grown (g := gb422) (o := .cells #[.int .i64 t418, .int .i64 t419, .int .i64 t420] 46 (0, 0)) (bk_ BK422) hg (Kd.R_away HO_5.out (fun _ hk => by first | exact hk.1.2.2.2.2 | grind)))
                have n6_ := Aside0.mk (Kd.R_after (ok := (fun k_ => some k_ ≠ (.slice Ao101 x7_1.length co101 : Value).ownBlock ∧ k_ ≠ gb395 ∧ k_ ≠ gb402 ∧ k_ ≠ gb421 ∧ k_ ≠ gb422)) (by (with_reducible repeat (first | apply Kd.R_alloc | apply Kd.R_drewN | apply Kd.R_drew)); exact Kd.R_mono HO425.out (fun _ hk => by first | exact ⟨⟨hk.1.1.1.1.2, ⟨hk.1.1.1.2, ⟨hk.1.1.2, ⟨hk.1.2, hk.2⟩⟩⟩⟩, hk.1.1.1.1.1.2⟩ | grind)) hg hat)
                have n7_ := Aside0.mk (hb); have n8_ := Aside0.mk (ho); clear HO_7 BK395 BK402 BK404 BK421 BK422 HO425 HB HO_5; have HO_7 := n0_; have BK395 := n1_; have BK402 := n2_; have BK404 := n3_; have BK421 := n4_; have BK422 := n5_; have HO425 := n6_; have HB := n7_; have HO428 := n8_; clear n0_ n1_ n2_ n3_ n4_ n5_ n6_ n7_ n8_ ho hb hg hat
                refine hK.out _ _ ⟨bt_ BK421 0, bt_ BK421 1, bt_ BK421 2, bt_ BK404 0, bt_ BK404 1, bt_ BK404 2, bt_ BK404 3, bt_ BK422 0, bt_ BK422 1, bt_ BK422 2⟩ (fun hHeld => ?_)
                clear hK K
                refine norm_ (a' := ?_) ?_ ?_
                rotate_left
                ·show Act.put _ (some 57) _ = _
                 simp only [Act.put, ls0_, ls1_, ls2_, i64_w, i32_w]
                 rfl
                refine on_ 7 (some 61) (bm 13 767) HT_ (fun K hK => ?_)
                refine Kd.R_lit_step k46 _ 46 ?hg (N := 61) ?hd (xs := ([(⟨((rd_T51 l0 x23_1).f1.f0), ((rd_T51 l0 x23_1).f1.f1), ((rd_T51 l0 x23_1).f1.f2)⟩ : S46)] : List (S46))) (inner := [.int .i64 ((rd_T51 l0 x23_1).f1.f0), .int .i64 ((rd_T51 l0 x23_1).f1.f1), .int .i64 ((rd_T51 l0 x23_1).f1.f2)]) (ok := fun _ => True) (okp := fun _ => True) ?hr ?hp (fun _ hk => by first | exact hk | grind) trivial (Below.refl _ _) (Nat.le_refl _) (by simp) ?_; (case hd => rfl); (case hg => rfl); (case hr => first | (go_simp; done) | (go_simp; rfl)); (case hp => exact (Reps.c3 (show Kd.M k46 _ _ _ (⟨((rd_T51 l0 x23_1).f1.f0), ((rd_T51 l0 x23_1).f1.f1), ((rd_T51 l0 x23_1).f1.f2)⟩ : S46) [.int .i64 ((rd_T51 l0 x23_1).f1.f0), .int .i64 ((rd_T51 l0 x23_1).f1.f1), .int .i64 ((rd_T51 l0 x23_1).f1.f2)] from (k46_mkM _ _ _ (⟨((rd_T51 l0 x23_1).f1.f0), ((rd_T51 l0 x23_1).f1.f1), ((rd_T51 l0 x23_1).f1.f2)⟩ : S46) )) (Reps.none _ _)))
                intro v430 w108 ho109 hb hg_ hnew_
                clear hg_ hnew_
                (first | rw [← Ny429.out] at ho109 | (simp only [Int.reduceToNat] at ho109; rw [← Ny429.out] at ho109))
                have n0_ := Aside0.mk (Kd.Q_elder' (by (with_reducible repeat (first | apply Kd.Q_alloc | apply Kd.Q_drewN | apply Kd.Q_drew)); exact HO_7.out) (Kd.R_base ho109) hb)
                have n1_ := Aside0.mk (Kd.R_elder' (kr_ HO425) (Kd.R_base ho109) hb); have n2_ := Aside0.mk (Kd.R_elder' (kr_ HO428) (Kd.R_base ho109) hb)
                have n3_ := Aside0.mk (Kd.R_lower (Kd.R_newB (Kd.R_newB (Kd.R_newB (Kd.R_newB (Kd.R_new' (Kd.R_new' (Kd.R_new' ho109 (Kd.Q_lt (by (with_reducible repeat (first | apply Kd.Q_alloc | apply Kd.Q_drewN | apply Kd.Q_drew)); exact HO_7.out))) (Kd.R_lt (kr_ HO425))) (Kd.R_lt (kr_ HO428))) (g := gb395) (o := .cells #[.int .i64 x396000_1, .int .i64 x396001_1, .int .i64 x396002_1] 46 (0, 0)) (bk_ BK395)) (g := gb402) (o := .cells #[.int .i64 x403000_1, .int .i64 x403001_1, .int .i64 x403002_1] 46 (0, 0)) (bk_ BK402)) (g := gb421) (o := .cells #[.int .i64 t415, .int .i64 t416, .int .i64 t417] 46 (0, 0)) (bk_ BK421)) (g := gb422) (o := .cells #[.int .i64 t418, .int .i64 t419, .int .i64 t420] 46 (0, 0)) (bk_ BK422)) (below_size (bf_ HB)))
                have n4_ := bb_ BK395 hb; have n5_ := bb_ BK402 hb; have n6_ := bb_ BK404 hb; have n7_ := bb_ BK421 hb; have n8_ := bb_ BK422 hb; have n9_ := Aside0.mk (below_step (bf_ HB) hb); clear HO_7 HO425 HO428 BK395 BK402 BK404 BK421 BK422 HB; have HO_7 := n0_; have HO425 := n1_; have HO428 := n2_; have HO431 := n3_; have BK395 := n4_; have BK402 := n5_; have BK404 := n6_; have BK421 := n7_; have BK422 := n8_; have HB := n9_; clear n0_ n1_ n2_ n3_ n4_ n5_ n6_ n7_ n8_ n9_ hb ho109
                refine hK.out _ _ ⟨bt_ BK421 0, bt_ BK421 1, bt_ BK421 2, bt_ BK404 0, bt_ BK404 1, bt_ BK404 2, bt_ BK404 3, bt_ BK422 0, bt_ BK422 1, bt_ BK422 2⟩ (fun hHeld => ?_)
                clear hK K
                refine norm_ (a' := ?_) ?_ ?_
                rotate_left
                ·show Act.put _ (some 61) _ = _
                 simp only [Act.put, ls0_, ls1_, ls2_, i64_w, i32_w]
                 rfl
                exact norm_ (by simp only [putAll, Act.put, ls0_, ls1_, ls2_]) (hCont (.slice Ao107 y423.length co107, v427, v430) _ ⟨hHeld, (by (with_reducible repeat (first | apply Kd.R_alloc | apply Kd.R_drewN | apply Kd.R_drew)); exact Kd.R_mono HO425.out (fun _ hk => by first | exact ⟨hk.1.2, ⟨hk.2, ⟨hk.1.1.1, ⟨hk.1.1.2.1, ⟨hk.1.1.2.2.1, ⟨hk.1.1.2.2.2.1, hk.1.1.2.2.2.2⟩⟩⟩⟩⟩⟩ | grind)), (by (with_reducible repeat (first | apply Kd.R_alloc | apply Kd.R_drewN | apply Kd.R_drew)); exact Kd.R_mono HO428.out (fun _ hk => by first | exact ⟨hk.1.2.1, ⟨hk.2, ⟨hk.1.1, ⟨hk.1.2.2.1, ⟨hk.1.2.2.2.1, ⟨hk.1.2.2.2.2.1, hk.1.2.2.2.2.2⟩⟩⟩⟩⟩⟩ | grind)), (by (with_reducible repeat (first | apply Kd.R_alloc | apply Kd.R_drewN | apply Kd.R_drew)); exact Kd.R_mono HO431.out (fun _ hk => by first | exact ⟨hk.1.1.1.1.1.2, ⟨hk.1.1.1.1.2, ⟨hk.1.1.1.1.1.1.2, ⟨hk.1.1.1.2, ⟨hk.1.1.2, ⟨hk.1.2, hk.2⟩⟩⟩⟩⟩⟩ | grind)), (by (with_reducible repeat (first | apply Kd.Q_alloc | apply Kd.Q_drewN | apply Kd.Q_drew)); exact Kd.Q_mono HO_7.out (fun _ hk => by first | exact ⟨hk.1.1.1, ⟨hk.1.2, ⟨hk.2, ⟨hk.1.1.2.1, ⟨hk.1.1.2.2.1, ⟨hk.1.1.2.2.2.1, hk.1.1.2.2.2.2⟩⟩⟩⟩⟩⟩ | grind)), (bk_ BK395), (bk_ BK402), (bk_ BK404), (bk_ BK421), (bk_ BK422), (bf_ HB)⟩)
               ·skip
                refine Kd.R_lit_step k46 _ 46 ?hg (N := 61) ?hd (xs := ([(⟨((rd_T51 l0 x23_1).f1.f0), ((rd_T51 l0 x23_1).f1.f1), ((rd_T51 l0 x23_1).f1.f2)⟩ : S46)] : List (S46))) (inner := [.int .i64 ((rd_T51 l0 x23_1).f1.f0), .int .i64 ((rd_T51 l0 x23_1).f1.f1), .int .i64 ((rd_T51 l0 x23_1).f1.f2)]) (ok := fun _ => True) (okp := fun _ => True) ?hr ?hp (fun _ hk => by first | exact hk | grind) trivial (Below.refl _ _) (Nat.le_refl _) (by simp) ?_; (case hd => rfl); (case hg => rfl); (case hr => first | (go_simp; done) | (go_simp; rfl)); (case hp => exact (Reps.c3 (show Kd.M k46 _ _ _ (⟨((rd_T51 l0 x23_1).f1.f0), ((rd_T51 l0 x23_1).f1.f1), ((rd_T51 l0 x23_1).f1.f2)⟩ : S46) [.int .i64 ((rd_T51 l0 x23_1).f1.f0), .int .i64 ((rd_T51 l0 x23_1).f1.f1), .int .i64 ((rd_T51 l0 x23_1).f1.f2)] from (k46_mkM _ _ _ (⟨((rd_T51 l0 x23_1).f1.f0), ((rd_T51 l0 x23_1).f1.f1), ((rd_T51 l0 x23_1).f1.f2)⟩ : S46) )) (Reps.none _ _)))
                intro v430 w106 ho107 hb hg_ hnew_
                clear hg_ hnew_
                (first | rw [← Ny429.out] at ho107 | (simp only [Int.reduceToNat] at ho107; rw [← Ny429.out] at ho107))
                have n0_ := Aside0.mk (Kd.R_elder' (kr_ HO_5) (Kd.R_base ho107) hb)
                have n1_ := Aside0.mk (Kd.Q_elder' (by (with_reducible repeat (first | apply Kd.Q_alloc | apply Kd.Q_drewN | apply Kd.Q_drew)); exact HO_7.out) (Kd.R_base ho107) hb)
                have n2_ := Aside0.mk (Kd.R_elder' (kr_ HO425) (Kd.R_base ho107) hb)
                have n3_ := Aside0.mk (Kd.R_lower (Kd.R_newB (Kd.R_newB (Kd.R_newB (Kd.R_newB (Kd.R_new' (Kd.R_new' (Kd.R_new' ho107 (Kd.R_lt (kr_ HO_5))) (Kd.Q_lt (by (with_reducible repeat (first | apply Kd.Q_alloc | apply Kd.Q_drewN | apply Kd.Q_drew)); exact HO_7.out))) (Kd.R_lt (kr_ HO425))) (g := gb395) (o := .cells #[.int .i64 x396000_1, .int .i64 x396001_1, .int .i64 x396002_1] 46 (0, 0)) (bk_ BK395)) (g := gb402) (o := .cells #[.int .i64 x403000_1, .int .i64 x403001_1, .int .i64 x403002_1] 46 (0, 0)) (bk_ BK402)) (g := gb421) (o := .cells #[.int .i64 t415, .int .i64 t416, .int .i64 t417] 46 (0, 0)) (bk_ BK421)) (g := gb422) (o := .cells #[.int .i64 t418, .int .i64 t419, .int .i64 t420] 46 (0, 0)) (bk_ BK422)) (below_size (bf_ HB)))
                have n4_ := bb_ BK395 hb; have n5_ := bb_ BK402 hb; have n6_ := bb_ BK404 hb; have n7_ := bb_ BK421 hb; have n8_ := bb_ BK422 hb; have n9_ := Aside0.mk (below_step (bf_ HB) hb); clear HO_5 HO_7 HO425 BK395 BK402 BK404 BK421 BK422 HB; have HO_5 := n0_; have HO_7 := n1_; have HO425 := n2_; have HO431 := n3_; have BK395 := n4_; have BK402 := n5_; have BK404 := n6_; have BK421 := n7_; have BK422 := n8_; have HB := n9_; clear n0_ n1_ n2_ n3_ n4_ n5_ n6_ n7_ n8_ n9_ hb ho107
                obtain ⟨Ao109, co109, eo109⟩ := Kd.R_slice HO425.out
                (first | subst eo109 | (injection eo109 with f1_ f2_ f3_; have f4_ := f1_.symm; have f5_ := f3_.symm; clear f1_ f2_ f3_; subst f4_; subst f5_))
                refine hK.out _ _ ⟨bt_ BK421 0, bt_ BK421 1, bt_ BK421 2, bt_ BK404 0, bt_ BK404 1, bt_ BK404 2, bt_ BK404 3, bt_ BK422 0, bt_ BK422 1, bt_ BK422 2⟩ (fun hHeld => ?_)
                clear hK K
                refine norm_ (a' := ?_) ?_ ?_
                rotate_left
                ·show Act.put _ (some 61) _ = _
                 simp only [Act.put, ls0_, ls1_, ls2_, i64_w, i32_w]
                 rfl
                refine on_ 3 (some 57) (bm 13 767) HT_ (fun K hK => ?_)
                refine Kd.R_append_rows_step k46 (w0 := w) w.heap.size (by rfl) (.tmp 54) (.tmp 56) 44 46 (.agg #[(.int .i64 0), (.int .i64 0), (.int .i64 0)]) 24 rfl Try.underlying44 info46 rfl (by decide) (by omega) (.slice Ao100 x5_1.length co100) x5_1 y423 _ _ _ (fun k_ => some k_ ≠ (.slice Ao101 x7_1.length co101 : Value).ownBlock ∧ some k_ ≠ (.slice Ao109 y423.length co109 : Value).ownBlock ∧ some k_ ≠ (v430 : Value).ownBlock ∧ k_ ≠ gb395 ∧ k_ ≠ gb402 ∧ k_ ≠ gb421 ∧ k_ ≠ gb422) (fun _ => False) rfl rfl ?aO ?aR (fun _ _ h => h) (fun _ h => h.elim) ?aF ?aB ?aS ?aL ?_
                (case aR => exact cr_ HO425)
                (case aB => exact (bf_ HB))
                (case aF => exact (fun k_ hk => by first | exact ⟨Kd.fresh' (Kd.Q_lt (by (with_reducible repeat (first | apply Kd.Q_alloc | apply Kd.Q_drewN | apply Kd.Q_drew)); exact HO_7.out)) k_ hk, Kd.fresh' (Kd.R_lt (kr_ HO425)) k_ hk, Kd.fresh' (Kd.R_lt (kr_ HO431)) k_ hk, Kd.freshB (g := gb395) (o := .cells #[.int .i64 x396000_1, .int .i64 x396001_1, .int .i64 x396002_1] 46 (0, 0)) (bk_ BK395) k_ hk, Kd.freshB (g := gb402) (o := .cells #[.int .i64 x403000_1, .int .i64 x403001_1, .int .i64 x403002_1] 46 (0, 0)) (bk_ BK402) k_ hk, Kd.freshB (g := gb421) (o := .cells #[.int .i64 t415, .int .i64 t416, .int .i64 t417] 46 (0, 0)) (bk_ BK421) k_ hk, Kd.freshB (g := gb422) (o := .cells #[.int .i64 t418, .int .i64 t419, .int .i64 t420] 46 (0, 0)) (bk_ BK422) k_ hk⟩ | grind))
                (case aO => exact (by (with_reducible repeat (first | apply Kd.R_alloc | apply Kd.R_drewN | apply Kd.R_drew)); exact Kd.R_mono HO_5.out (fun _ hk => by first | exact ⟨hk.1.1.1, ⟨hk.1.2, ⟨hk.2, ⟨hk.1.1.2.1, ⟨hk.1.1.2.2.1, ⟨hk.1.1.2.2.2.1, hk.1.1.2.2.2.2⟩⟩⟩⟩⟩⟩ | grind)))
                (case aS => exact (below_size (bf_ HB)))
                (case aL => have := LMc81.out; omega)
                intro v427 w108 ho hb hg hat
                rw [← Ny426.out] at ho
                have n0_ := Aside0.mk (Kd.Q_after (ok := (fun k_ => some k_ ≠ (.slice Ao109 y423.length co109 : Value).ownBlock ∧ some k_ ≠ (v430 : Value).ownBlock ∧ k_ ≠ gb395 ∧ k_ ≠ gb402 ∧ k_ ≠ gb421 ∧ k_ ≠ gb422)) (by (with_reducible repeat (first | apply Kd.Q_alloc | apply Kd.Q_drewN | apply Kd.Q_drew)); exact Kd.Q_mono HO_7.out (fun _ hk => by first | exact ⟨⟨hk.1.2, ⟨hk.2, ⟨hk.1.1.2.1, ⟨hk.1.1.2.2.1, ⟨hk.1.1.2.2.2.1, hk.1.1.2.2.2.2⟩⟩⟩⟩⟩, hk.1.1.1⟩ | grind)) hg hat)
                have n1_ := Aside0.mk (blk_grown (g := gb395) (o := .cells #[.int .i64 x396000_1, .int .i64 x396001_1, .int .i64 x396002_1] 46 (0, 0)) (bk_ BK395) hg (Kd.R_away HO_5.out (fun _ hk => by first | exact hk.1.1.2.1 | grind)))
                have n2_ := Aside0.mk (blk_grown (g := gb402) (o := .cells #[.int .i64 x403000_1, .int .i64 x403001_1, .int .i64 x403002_1] 46 (0, 0)) (bk_ BK402) hg (Kd.R_away HO_5.out (fun _ hk => by first | exact hk.1.1.2.2.1 | grind)))
                have n3_ := Aside0.mk (blk_grown (g := gb404) (o := .cells #[.bool ((rd_T51 l0 x23_1).f0), .int .i64 ((rd_T51 l0 x23_1).f1.f0), .int .i64 ((rd_T51 l0 x23_1).f1.f1), .int .i64 ((rd_T51 l0 x23_1).f1.f2)] 51 (0, 0)) (bk_ BK404) hg (Kd.R_ne HO_5.out BK404.out (by decide)))
                have n4_ := Aside0.mk (blk_grown (g := gb421) (o := .cells #[.int .i64 t415, .int .i64 t416, .int .i64 t417] 46 (0, 0)) (bk_ BK421) hg (Kd.R_away HO_5.out (fun _ hk => by first | exact hk.1.1.2.2.2.1 | grind)))
                have n5_ := Aside0.mk (blk_grown (g := gb422) (o := .cells #[.int .i64 t418, .int .i64 t419, .int .i64 t420] 46 (0, 0)) (bk_ BK422) hg (Kd.R_away HO_5.out (fun _ hk => by first | exact hk.1.1.2.2.2.2 | grind)))
                have n6_ := Aside0.mk (Kd.R_after (ok := (fun k_ => some k_ ≠ (.slice Ao101 x7_1.length co101 : Value).ownBlock ∧ some k_ ≠ (v430 : Value).ownBlock ∧ k_ ≠ gb395 ∧ k_ ≠ gb402 ∧ k_ ≠ gb421 ∧ k_ ≠ gb422)) (by (with_reducible repeat (first | apply Kd.R_alloc | apply Kd.R_drewN | apply Kd.R_drew)); exact Kd.R_mono HO425.out (fun _ hk => by first | exact ⟨⟨hk.1.1.1.1.1.2, ⟨hk.2, ⟨hk.1.1.1.1.2, ⟨hk.1.1.1.2, ⟨hk.1.1.2, hk.1.2⟩⟩⟩⟩⟩, hk.1.1.1.1.1.1.2⟩ | grind)) hg hat)
                have n7_ := Aside0.mk (Kd.R_after (ok := (fun k_ => some k_ ≠ (.slice Ao101 x7_1.length co101 : Value).ownBlock ∧ some k_ ≠ (.slice Ao109 y423.length co109 : Value).ownBlock ∧ k_ ≠ gb395 ∧ k_ ≠ gb402 ∧ k_ ≠ gb421 ∧ k_ ≠ gb422)) (by (with_reducible repeat (first | apply Kd.R_alloc | apply Kd.R_drewN | apply Kd.R_drew)); exact Kd.R_mono HO431.out (fun _ hk => by first | exact ⟨⟨hk.1.1.1.1.1.2, ⟨hk.1.1.1.1.2, ⟨hk.1.1.1.2, ⟨hk.1.1.2, ⟨hk.1.2, hk.2⟩⟩⟩⟩⟩, hk.1.1.1.1.1.1.2⟩ | grind)) hg hat)
                have n8_ := Aside0.mk (hb); have n9_ := Aside0.mk (ho); clear HO_7 BK395 BK402 BK404 BK421 BK422 HO425 HO431 HB HO_5; have HO_7 := n0_; have BK395 := n1_; have BK402 := n2_; have BK404 := n3_; have BK421 := n4_; have BK422 := n5_; have HO425 := n6_; have HO431 := n7_; have HB := n8_; have HO428 := n9_; clear n0_ n1_ n2_ n3_ n4_ n5_ n6_ n7_ n8_ n9_ ho hb hg hat
                refine hK.out _ _ ⟨bt_ BK421 0, bt_ BK421 1, bt_ BK421 2, bt_ BK404 0, bt_ BK404 1, bt_ BK404 2, bt_ BK404 3, bt_ BK422 0, bt_ BK422 1, bt_ BK422 2⟩ (fun hHeld => ?_)
                clear hK K
                refine norm_ (a' := ?_) ?_ ?_
                rotate_left
                ·show Act.put _ (some 57) _ = _
                 simp only [Act.put, ls0_, ls1_, ls2_, i64_w, i32_w]
                 rfl
                exact norm_ (by simp only [putAll, Act.put, ls0_, ls1_, ls2_]) (hCont (.slice Ao109 y423.length co109, v427, v430) _ ⟨hHeld, (by (with_reducible repeat (first | apply Kd.R_alloc | apply Kd.R_drewN | apply Kd.R_drew)); exact Kd.R_mono HO425.out (fun _ hk => by first | exact ⟨hk.2, ⟨hk.1.2.1, ⟨hk.1.1, ⟨hk.1.2.2.1, ⟨hk.1.2.2.2.1, ⟨hk.1.2.2.2.2.1, hk.1.2.2.2.2.2⟩⟩⟩⟩⟩⟩ | grind)), (by (with_reducible repeat (first | apply Kd.R_alloc | apply Kd.R_drewN | apply Kd.R_drew)); exact Kd.R_mono HO428.out (fun _ hk => by first | exact ⟨hk.2.1, ⟨hk.2.2.1, ⟨hk.1, ⟨hk.2.2.2.1, ⟨hk.2.2.2.2.1, ⟨hk.2.2.2.2.2.1, hk.2.2.2.2.2.2⟩⟩⟩⟩⟩⟩ | grind)), (by (with_reducible repeat (first | apply Kd.R_alloc | apply Kd.R_drewN | apply Kd.R_drew)); exact Kd.R_mono HO431.out (fun _ hk => by first | exact ⟨hk.1.2.1, ⟨hk.2, ⟨hk.1.1, ⟨hk.1.2.2.1, ⟨hk.1.2.2.2.1, ⟨hk.1.2.2.2.2.1, hk.1.2.2.2.2.2⟩⟩⟩⟩⟩⟩ | grind)), (by (with_reducible repeat (first | apply Kd.Q_alloc | apply Kd.Q_drewN | apply Kd.Q_drew)); exact Kd.Q_mono HO_7.out (fun _ hk => by first | exact ⟨hk.1.1, ⟨hk.2, ⟨hk.1.2.1, ⟨hk.1.2.2.1, ⟨hk.1.2.2.2.1, ⟨hk.1.2.2.2.2.1, hk.1.2.2.2.2.2⟩⟩⟩⟩⟩⟩ | grind)), (bk_ BK395), (bk_ BK402), (bk_ BK404), (bk_ BK421), (bk_ BK422), (bf_ HB)⟩)
              ·skip
               refine Kd.R_lit_step k46 _ 46 ?hg (N := 61) ?hd (xs := ([(⟨((rd_T51 l0 x23_1).f1.f0), ((rd_T51 l0 x23_1).f1.f1), ((rd_T51 l0 x23_1).f1.f2)⟩ : S46)] : List (S46))) (inner := [.int .i64 ((rd_T51 l0 x23_1).f1.f0), .int .i64 ((rd_T51 l0 x23_1).f1.f1), .int .i64 ((rd_T51 l0 x23_1).f1.f2)]) (ok := fun _ => True) (okp := fun _ => True) ?hr ?hp (fun _ hk => by first | exact hk | grind) trivial (Below.refl _ _) (Nat.le_refl _) (by simp) ?_; (case hd => rfl); (case hg => rfl); (case hr => first | (go_simp; done) | (go_simp; rfl)); (case hp => exact (Reps.c3 (show Kd.M k46 _ _ _ (⟨((rd_T51 l0 x23_1).f1.f0), ((rd_T51 l0 x23_1).f1.f1), ((rd_T51 l0 x23_1).f1.f2)⟩ : S46) [.int .i64 ((rd_T51 l0 x23_1).f1.f0), .int .i64 ((rd_T51 l0 x23_1).f1.f1), .int .i64 ((rd_T51 l0 x23_1).f1.f2)] from (k46_mkM _ _ _ (⟨((rd_T51 l0 x23_1).f1.f0), ((rd_T51 l0 x23_1).f1.f1), ((rd_T51 l0 x23_1).f1.f2)⟩ : S46) )) (Reps.none _ _)))
               intro v430 w104 ho105 hb hg_ hnew_
               clear hg_ hnew_
               (first | rw [← Ny429.out] at ho105 | (simp only [Int.reduceToNat] at ho105; rw [← Ny429.out] at ho105))
               have n0_ := Aside0.mk (Kd.R_elder' (kr_ HO_5) (Kd.R_base ho105) hb)
               have n1_ := Aside0.mk (Kd.Q_elder' (by (with_reducible repeat (first | apply Kd.Q_alloc | apply Kd.Q_drewN | apply Kd.Q_drew)); exact HO_7.out) (Kd.R_base ho105) hb)
               have n2_ := Aside0.mk (Kd.R_lower (Kd.R_newB (Kd.R_newB (Kd.R_newB (Kd.R_newB (Kd.R_new' (Kd.R_new' ho105 (Kd.R_lt (kr_ HO_5))) (Kd.Q_lt (by (with_reducible repeat (first | apply Kd.Q_alloc | apply Kd.Q_drewN | apply Kd.Q_drew)); exact HO_7.out))) (g := gb395) (o := .cells #[.int .i64 x396000_1, .int .i64 x396001_1, .int .i64 x396002_1] 46 (0, 0)) (bk_ BK395)) (g := gb402) (o := .cells #[.int .i64 x403000_1, .int .i64 x403001_1, .int .i64 x403002_1] 46 (0, 0)) (bk_ BK402)) (g := gb421) (o := .cells #[.int .i64 t415, .int .i64 t416, .int .i64 t417] 46 (0, 0)) (bk_ BK421)) (g := gb422) (o := .cells #[.int .i64 t418, .int .i64 t419, .int .i64 t420] 46 (0, 0)) (bk_ BK422)) (below_size (bf_ HB)))
               have n3_ := bb_ BK395 hb; have n4_ := bb_ BK402 hb; have n5_ := bb_ BK404 hb; have n6_ := bb_ BK421 hb; have n7_ := bb_ BK422 hb; have n8_ := Aside0.mk (below_step (bf_ HB) hb); clear HO_5 HO_7 BK395 BK402 BK404 BK421 BK422 HB; have HO_5 := n0_; have HO_7 := n1_; have HO431 := n2_; have BK395 := n3_; have BK402 := n4_; have BK404 := n5_; have BK421 := n6_; have BK422 := n7_; have HB := n8_; clear n0_ n1_ n2_ n3_ n4_ n5_ n6_ n7_ n8_ hb ho105
               refine hK.out _ _ ⟨bt_ BK421 0, bt_ BK421 1, bt_ BK421 2, bt_ BK404 0, bt_ BK404 1, bt_ BK404 2, bt_ BK404 3, bt_ BK422 0, bt_ BK422 1, bt_ BK422 2⟩ (fun hHeld => ?_)
               clear hK K
               refine norm_ (a' := ?_) ?_ ?_
               rotate_left
               ·show Act.put _ (some 61) _ = _
                simp only [Act.put, ls0_, ls1_, ls2_, i64_w, i32_w]
                rfl
               refine on_ 2 (some 56) (bm 13 759) HT_ (fun K hK => ?_)
               refine Kd.R_lit_step k46 _ 46 ?hg (N := 56) ?hd (xs := ([(⟨t415, t416, t417⟩ : S46)] : List (S46))) (inner := [.int .i64 t415, .int .i64 t416, .int .i64 t417]) (ok := fun _ => True) (okp := fun _ => True) ?hr ?hp (fun _ hk => by first | exact hk | grind) trivial (Below.refl _ _) (Nat.le_refl _) (by simp) ?_; (case hd => rfl); (case hg => rfl); (case hr => first | (go_simp; done) | (go_simp; rfl)); (case hp => exact (Reps.c3 (show Kd.M k46 _ _ _ (⟨t415, t416, t417⟩ : S46) [.int .i64 t415, .int .i64 t416, .int .i64 t417] from (k46_mkM _ _ _ (⟨t415, t416, t417⟩ : S46) )) (Reps.none _ _)))
               intro v424 w106 ho107 hb hg_ hnew_
               clear hg_ hnew_
               (first | rw [← Ny423.out] at ho107 | (simp only [Int.reduceToNat] at ho107; rw [← Ny423.out] at ho107))
               have n0_ := Aside0.mk (Kd.R_elder' (kr_ HO_5) (Kd.R_base ho107) hb)
               have n1_ := Aside0.mk (Kd.Q_elder' (by (with_reducible repeat (first | apply Kd.Q_alloc | apply Kd.Q_drewN | apply Kd.Q_drew)); exact HO_7.out) (Kd.R_base ho107) hb)
               have n2_ := Aside0.mk (Kd.R_elder' (kr_ HO431) (Kd.R_base ho107) hb)
               have n3_ := Aside0.mk (Kd.R_lower (Kd.R_newB (Kd.R_newB (Kd.R_newB (Kd.R_newB (Kd.R_new' (Kd.R_new' (Kd.R_new' ho107 (Kd.R_lt (kr_ HO_5))) (Kd.Q_lt (by (with_reducible repeat (first | apply Kd.Q_alloc | apply Kd.Q_drewN | apply Kd.Q_drew)); exact HO_7.out))) (Kd.R_lt (kr_ HO431))) (g := gb395) (o := .cells #[.int .i64 x396000_1, .int .i64 x396001_1, .int .i64 x396002_1] 46 (0, 0)) (bk_ BK395)) (g := gb402) (o := .cells #[.int .i64 x403000_1, .int .i64 x403001_1, .int .i64 x403002_1] 46 (0, 0)) (bk_ BK402)) (g := gb421) (o := .cells #[.int .i64 t415, .int .i64 t416, .int .i64 t417] 46 (0, 0)) (bk_ BK421)) (g := gb422) (o := .cells #[.int .i64 t418, .int .i64 t419, .int .i64 t420] 46 (0, 0)) (bk_ BK422)) (below_size (bf_ HB)))
               have n4_ := bb_ BK395 hb; have n5_ := bb_ BK402 hb; have n6_ := bb_ BK404 hb; have n7_ := bb_ BK421 hb; have n8_ := bb_ BK422 hb; have n9_ := Aside0.mk (below_step (bf_ HB) hb); clear HO_5 HO_7 HO431 BK395 BK402 BK404 BK421 BK422 HB; have HO_5 := n0_; have HO_7 := n1_; have HO431 := n2_; have HO425 := n3_; have BK395 := n4_; have BK402 := n5_; have BK404 := n6_; have BK421 := n7_; have BK422 := n8_; have HB := n9_; clear n0_ n1_ n2_ n3_ n4_ n5_ n6_ n7_ n8_ n9_ hb ho107
               obtain ⟨Ao109, co109, eo109⟩ := Kd.R_slice HO425.out
               (first | subst eo109 | (injection eo109 with f1_ f2_ f3_; have f4_ := f1_.symm; have f5_ := f3_.symm; clear f1_ f2_ f3_; subst f4_; subst f5_))
               refine hK.out _ _ ⟨bt_ BK421 0, bt_ BK421 1, bt_ BK421 2, bt_ BK404 0, bt_ BK404 1, bt_ BK404 2, bt_ BK404 3, bt_ BK422 0, bt_ BK422 1, bt_ BK422 2⟩ (fun hHeld => ?_)
               clear hK K
               refine norm_ (a' := ?_) ?_ ?_
               rotate_left
               ·show Act.put _ (some 56) _ = _
                simp only [Act.put, ls0_, ls1_, ls2_, i64_w, i32_w]
                rfl
               refine on_ 3 (some 57) (bm 13 767) HT_ (fun K hK => ?_)
               refine Kd.R_append_rows_step k46 (w0 := w) w.heap.size (by rfl) (.tmp 54) (.tmp 56) 44 46 (.agg #[(.int .i64 0), (.int .i64 0), (.int .i64 0)]) 24 rfl Try.underlying44 info46 rfl (by decide) (by omega) (.slice Ao100 x5_1.length co100) x5_1 y423 _ _ _ (fun k_ => some k_ ≠ (.slice Ao101 x7_1.length co101 : Value).ownBlock ∧ some k_ ≠ (v430 : Value).ownBlock ∧ some k_ ≠ (.slice Ao109 y423.length co109 : Value).ownBlock ∧ k_ ≠ gb395 ∧ k_ ≠ gb402 ∧ k_ ≠ gb421 ∧ k_ ≠ gb422) (fun _ => False) rfl rfl ?aO ?aR (fun _ _ h => h) (fun _ h => h.elim) ?aF ?aB ?aS ?aL ?_
               (case aR => exact cr_ HO425)
               (case aB => exact (bf_ HB))
               (case aF => exact (fun k_ hk => by first | exact ⟨Kd.fresh' (Kd.Q_lt (by (with_reducible repeat (first | apply Kd.Q_alloc | apply Kd.Q_drewN | apply Kd.Q_drew)); exact HO_7.out)) k_ hk, Kd.fresh' (Kd.R_lt (kr_ HO431)) k_ hk, Kd.fresh' (Kd.R_lt (kr_ HO425)) k_ hk, Kd.freshB (g := gb395) (o := .cells #[.int .i64 x396000_1, .int .i64 x396001_1, .int .i64 x396002_1] 46 (0, 0)) (bk_ BK395) k_ hk, Kd.freshB (g := gb402) (o := .cells #[.int .i64 x403000_1, .int .i64 x403001_1, .int .i64 x403002_1] 46 (0, 0)) (bk_ BK402) k_ hk, Kd.freshB (g := gb421) (o := .cells #[.int .i64 t415, .int .i64 t416, .int .i64 t417] 46 (0, 0)) (bk_ BK421) k_ hk, Kd.freshB (g := gb422) (o := .cells #[.int .i64 t418, .int .i64 t419, .int .i64 t420] 46 (0, 0)) (bk_ BK422) k_ hk⟩ | grind))
               (case aO => exact (by (with_reducible repeat (first | apply Kd.R_alloc | apply Kd.R_drewN | apply Kd.R_drew)); exact Kd.R_mono HO_5.out (fun _ hk => by first | exact ⟨hk.1.1.1, ⟨hk.1.2, ⟨hk.2, ⟨hk.1.1.2.1, ⟨hk.1.1.2.2.1, ⟨hk.1.1.2.2.2.1, hk.1.1.2.2.2.2⟩⟩⟩⟩⟩⟩ | grind)))
               (case aS => exact (below_size (bf_ HB)))
               (case aL => have := LMc81.out; omega)
               intro v427 w108 ho hb hg hat
               rw [← Ny426.out] at ho
               have n0_ := Aside0.mk (Kd.Q_after (ok := (fun k_ => some k_ ≠ (v430 : Value).ownBlock ∧ some k_ ≠ (.slice Ao109 y423.length co109 : Value).ownBlock ∧ k_ ≠ gb395 ∧ k_ ≠ gb402 ∧ k_ ≠ gb421 ∧ k_ ≠ gb422)) (by (with_reducible repeat (first | apply Kd.Q_alloc | apply Kd.Q_drewN | apply Kd.Q_drew)); exact Kd.Q_mono HO_7.out (fun _ hk => by first | exact ⟨⟨hk.1.2, ⟨hk.2, ⟨hk.1.1.2.1, ⟨hk.1.1.2.2.1, ⟨hk.1.1.2.2.2.1, hk.1.1.2.2.2.2⟩⟩⟩⟩⟩, hk.1.1.1⟩ | grind)) hg hat)
               have n1_ := Aside0.mk (blk_grown (g := gb395) (o := .cells #[.int .i64 x396000_1, .int .i64 x396001_1, .int .i64 x396002_1] 46 (0, 0)) (bk_ BK395) hg (Kd.R_away HO_5.out (fun _ hk => by first | exact hk.1.1.2.1 | grind)))
               have n2_ := Aside0.mk (blk_grown (g := gb402) (o := .cells #[.int .i64 x403000_1, .int .i64 x403001_1, .int .i64 x403002_1] 46 (0, 0)) (bk_ BK402) hg (Kd.R_away HO_5.out (fun _ hk => by first | exact hk.1.1.2.2.1 | grind)))
               have n3_ := Aside0.mk (blk_grown (g := gb404) (o := .cells #[.bool ((rd_T51 l0 x23_1).f0), .int .i64 ((rd_T51 l0 x23_1).f1.f0), .int .i64 ((rd_T51 l0 x23_1).f1.f1), .int .i64 ((rd_T51 l0 x23_1).f1.f2)] 51 (0, 0)) (bk_ BK404) hg (Kd.R_ne HO_5.out BK404.out (by decide)))
               have n4_ := Aside0.mk (blk_grown (g := gb421) (o := .cells #[.int .i64 t415, .int .i64 t416, .int .i64 t417] 46 (0, 0)) (bk_ BK421) hg (Kd.R_away HO_5.out (fun _ hk => by first | exact hk.1.1.2.2.2.1 | grind)))
               have n5_ := Aside0.mk (blk_grown (g := gb422) (o := .cells #[.int .i64 t418, .int .i64 t419, .int .i64 t420] 46 (0, 0)) (bk_ BK422) hg (Kd.R_away HO_5.out (fun _ hk => by first | exact hk.1.1.2.2.2.2 | grind)))
               have n6_ := Aside0.mk (Kd.R_after (ok := (fun k_ => some k_ ≠ (.slice Ao101 x7_1.length co101 : Value).ownBlock ∧ some k_ ≠ (.slice Ao109 y423.length co109 : Value).ownBlock ∧ k_ ≠ gb395 ∧ k_ ≠ gb402 ∧ k_ ≠ gb421 ∧ k_ ≠ gb422)) (by (with_reducible repeat (first | apply Kd.R_alloc | apply Kd.R_drewN | apply Kd.R_drew)); exact Kd.R_mono HO431.out (fun _ hk => by first | exact ⟨⟨hk.1.1.1.1.1.2, ⟨hk.2, ⟨hk.1.1.1.1.2, ⟨hk.1.1.1.2, ⟨hk.1.1.2, hk.1.2⟩⟩⟩⟩⟩, hk.1.1.1.1.1.1.2⟩ | grind)) hg hat)
               have n7_ := Aside0.mk (Kd.R_after (ok := (fun k_ => some k_ ≠ (.slice Ao101 x7_1.length co101 : Value).ownBlock ∧ some k_ ≠ (v430 : Value).ownBlock ∧ k_ ≠ gb395 ∧ k_ ≠ gb402 ∧ k_ ≠ gb421 ∧ k_ ≠ gb422)) (by (with_reducible repeat (first | apply Kd.R_alloc | apply Kd.R_drewN | apply Kd.R_drew)); exact Kd.R_mono HO425.out (fun _ hk => by first | exact ⟨⟨hk.1.1.1.1.1.2, ⟨hk.1.1.1.1.2, ⟨hk.1.1.1.2, ⟨hk.1.1.2, ⟨hk.1.2, hk.2⟩⟩⟩⟩⟩, hk.1.1.1.1.1.1.2⟩ | grind)) hg hat)
               have n8_ := Aside0.mk (hb); have n9_ := Aside0.mk (ho); clear HO_7 BK395 BK402 BK404 BK421 BK422 HO431 HO425 HB HO_5; have HO_7 := n0_; have BK395 := n1_; have BK402 := n2_; have BK404 := n3_; have BK421 := n4_; have BK422 := n5_; have HO431 := n6_; have HO425 := n7_; have HB := n8_; have HO428 := n9_; clear n0_ n1_ n2_ n3_ n4_ n5_ n6_ n7_ n8_ n9_ ho hb hg hat
               refine hK.out _ _ ⟨bt_ BK421 0, bt_ BK421 1, bt_ BK421 2, bt_ BK404 0, bt_ BK404 1, bt_ BK404 2, bt_ BK404 3, bt_ BK422 0, bt_ BK422 1, bt_ BK422 2⟩ (fun hHeld => ?_)
               clear hK K
               refine norm_ (a' := ?_) ?_ ?_
               rotate_left
               ·show Act.put _ (some 57) _ = _
                simp only [Act.put, ls0_, ls1_, ls2_, i64_w, i32_w]
                rfl
               exact norm_ (by simp only [putAll, Act.put, ls0_, ls1_, ls2_]) (hCont (.slice Ao109 y423.length co109, v427, v430) _ ⟨hHeld, (by (with_reducible repeat (first | apply Kd.R_alloc | apply Kd.R_drewN | apply Kd.R_drew)); exact Kd.R_mono HO425.out (fun _ hk => by first | exact ⟨hk.2, ⟨hk.1.2.1, ⟨hk.1.1, ⟨hk.1.2.2.1, ⟨hk.1.2.2.2.1, ⟨hk.1.2.2.2.2.1, hk.1.2.2.2.2.2⟩⟩⟩⟩⟩⟩ | grind)), (by (with_reducible repeat (first | apply Kd.R_alloc | apply Kd.R_drewN | apply Kd.R_drew)); exact Kd.R_mono HO428.out (fun _ hk => by first | exact ⟨hk.2.2.1, ⟨hk.2.1, ⟨hk.1, ⟨hk.2.2.2.1, ⟨hk.2.2.2.2.1, ⟨hk.2.2.2.2.2.1, hk.2.2.2.2.2.2⟩⟩⟩⟩⟩⟩ | grind)), (by (with_reducible repeat (first | apply Kd.R_alloc | apply Kd.R_drewN | apply Kd.R_drew)); exact Kd.R_mono HO431.out (fun _ hk => by first | exact ⟨hk.1.2.1, ⟨hk.2, ⟨hk.1.1, ⟨hk.1.2.2.1, ⟨hk.1.2.2.2.1, ⟨hk.1.2.2.2.2.1, hk.1.2.2.2.2.2⟩⟩⟩⟩⟩⟩ | grind)), (by (with_reducible repeat (first | apply Kd.Q_alloc | apply Kd.Q_drewN | apply Kd.Q_drew)); exact Kd.Q_mono HO_7.out (fun _ hk => by first | exact ⟨hk.1.2.1, ⟨hk.2, ⟨hk.1.1, ⟨hk.1.2.2.1, ⟨hk.1.2.2.2.1, ⟨hk.1.2.2.2.2.1, hk.1.2.2.2.2.2⟩⟩⟩⟩⟩⟩ | grind)), (bk_ BK395), (bk_ BK402), (bk_ BK404), (bk_ BK421), (bk_ BK422), (bf_ HB)⟩)
             rintro ⟨v424, v427, v430⟩ w110 ⟨hS_, h0_, h1_, h2_, h3_, h4_, h5_, h6_, h7_, h8_, h9_⟩
             have n0_ : Aside0 (Kd.R k46 46 w110 w.heap.size (fun k_ => some k_ ≠ (v427 : Value).ownBlock ∧ some k_ ≠ (v430 : Value).ownBlock ∧ some k_ ≠ (.slice Ao101 x7_1.length co101 : Value).ownBlock ∧ k_ ≠ gb395 ∧ k_ ≠ gb402 ∧ k_ ≠ gb421 ∧ k_ ≠ gb422) v424 y423) := ⟨h0_⟩
             have n1_ : Aside0 (Kd.R k46 46 w110 w.heap.size (fun k_ => some k_ ≠ (v424 : Value).ownBlock ∧ some k_ ≠ (v430 : Value).ownBlock ∧ some k_ ≠ (.slice Ao101 x7_1.length co101 : Value).ownBlock ∧ k_ ≠ gb395 ∧ k_ ≠ gb402 ∧ k_ ≠ gb421 ∧ k_ ≠ gb422) v427 y426) := ⟨h1_⟩
             have n2_ : Aside0 (Kd.R k46 46 w110 w.heap.size (fun k_ => some k_ ≠ (v424 : Value).ownBlock ∧ some k_ ≠ (v427 : Value).ownBlock ∧ some k_ ≠ (.slice Ao101 x7_1.length co101 : Value).ownBlock ∧ k_ ≠ gb395 ∧ k_ ≠ gb402 ∧ k_ ≠ gb421 ∧ k_ ≠ gb422) v430 y429) := ⟨h2_⟩
             have n3_ : Aside0 (Kd.Q k46 46 w110 w.heap.size (fun k_ => some k_ ≠ (v424 : Value).ownBlock ∧ some k_ ≠ (v427 : Value).ownBlock ∧ some k_ ≠ (v430 : Value).ownBlock ∧ k_ ≠ gb395 ∧ k_ ≠ gb402 ∧ k_ ≠ gb421 ∧ k_ ≠ gb422) (.slice Ao101 x7_1.length co101) x7_1) := ⟨h3_⟩
             have n4_ : Aside0 (w110.heap[gb395]? = some (.cells #[.int .i64 x396000_1, .int .i64 x396001_1, .int .i64 x396002_1] 46 (0, 0))) := ⟨h4_⟩
             have n5_ : Aside0 (w110.heap[gb402]? = some (.cells #[.int .i64 x403000_1, .int .i64 x403001_1, .int .i64 x403002_1] 46 (0, 0))) := ⟨h5_⟩
             have n6_ : Aside0 (w110.heap[gb404]? = some (.cells #[.bool ((rd_T51 l0 x23_1).f0), .int .i64 ((rd_T51 l0 x23_1).f1.f0), .int .i64 ((rd_T51 l0 x23_1).f1.f1), .int .i64 ((rd_T51 l0 x23_1).f1.f2)] 51 (0, 0))) := ⟨h6_⟩
             have n7_ : Aside0 (w110.heap[gb421]? = some (.cells #[.int .i64 t415, .int .i64 t416, .int .i64 t417] 46 (0, 0))) := ⟨h7_⟩
             have n8_ : Aside0 (w110.heap[gb422]? = some (.cells #[.int .i64 t418, .int .i64 t419, .int .i64 t420] 46 (0, 0))) := ⟨h8_⟩
             have n9_ : Aside0 (Below w.heap.size w w110) := ⟨h9_⟩
             clear HO_5 HO_7 BK395 BK402 BK404 BK421 BK422 HB h0_ h1_ h2_ h3_ h4_ h5_ h6_ h7_ h8_ h9_; have HO425 := n0_; have HO428 := n1_; have HO431 := n2_; have HO_7 := n3_; have BK395 := n4_; have BK402 := n5_; have BK404 := n6_; have BK421 := n7_; have BK422 := n8_; have HB := n9_; clear n0_ n1_ n2_ n3_ n4_ n5_ n6_ n7_ n8_ n9_
             have hHeld : w110.cell? ⟨gb421, 0, none⟩ = some (.int .i64 t415) ∧ w110.cell? ⟨gb421, 1, none⟩ = some (.int .i64 t416) ∧ w110.cell? ⟨gb421, 2, none⟩ = some (.int .i64 t417) ∧ w110.cell? ⟨gb404, 0, none⟩ = some (.bool ((rd_T51 l0 x23_1).f0)) ∧ w110.cell? ⟨gb404, 1, none⟩ = some (.int .i64 ((rd_T51 l0 x23_1).f1.f0)) ∧ w110.cell? ⟨gb404, 2, none⟩ = some (.int .i64 ((rd_T51 l0 x23_1).f1.f1)) ∧ w110.cell? ⟨gb404, 3, none⟩ = some (.int .i64 ((rd_T51 l0 x23_1).f1.f2)) ∧ w110.cell? ⟨gb422, 0, none⟩ = some (.int .i64 t418) ∧ w110.cell? ⟨gb422, 1, none⟩ = some (.int .i64 t419) ∧ w110.cell? ⟨gb422, 2, none⟩ = some (.int .i64 t420) := hS_
             obtain ⟨Ao112, co112, eo112⟩ := Kd.R_slice HO431.out
             (first | subst eo112 | (injection eo112 with f1_ f2_ f3_; have f4_ := f1_.symm; have f5_ := f3_.symm; clear f1_ f2_ f3_; subst f4_; subst f5_))
             refine norm_ (a' := ?_) ?_ ?_
             rotate_left
             ·simp only [putAll, Act.put, ls0_, ls1_, ls2_]
              rfl
             refine on_ 8 (some 62) (bs 13 10) HT_ (fun K hK => ?_)
             refine Q_append_rows_step_ k46 (w0 := w) w.heap.size (by rfl) (.tmp 58) (.tmp 61) 44 46 (.agg #[(.int .i64 0), (.int .i64 0), (.int .i64 0)]) 24 rfl Try.underlying44 info46 rfl (by decide) (by omega) (.slice Ao101 x7_1.length co101) x7_1 y429 _ _ _ (fun k_ => some k_ ≠ (v424 : Value).ownBlock ∧ some k_ ≠ (v427 : Value).ownBlock ∧ some k_ ≠ (.slice Ao112 y429.length co112 : Value).ownBlock ∧ k_ ≠ gb395 ∧ k_ ≠ gb402 ∧ k_ ≠ gb421 ∧ k_ ≠ gb422) (fun _ => False) rfl rfl ?aO ?aR (fun _ _ h => h) (fun _ h => h.elim) ?aF ?aB ?aS ?aL ?aP ?_
             (case aR => exact cr_ HO431)
             (case aP => first | (rw [Ny429.out]; simp; done) | (simp; done) | omega)
             (case aB => exact (bf_ HB))
             (case aF => exact (fun k_ hk => by first | exact ⟨Kd.fresh' (Kd.R_lt (kr_ HO425)) k_ hk, Kd.fresh' (Kd.R_lt (kr_ HO428)) k_ hk, Kd.fresh' (Kd.R_lt (kr_ HO431)) k_ hk, Kd.freshB (g := gb395) (o := .cells #[.int .i64 x396000_1, .int .i64 x396001_1, .int .i64 x396002_1] 46 (0, 0)) (bk_ BK395) k_ hk, Kd.freshB (g := gb402) (o := .cells #[.int .i64 x403000_1, .int .i64 x403001_1, .int .i64 x403002_1] 46 (0, 0)) (bk_ BK402) k_ hk, Kd.freshB (g := gb421) (o := .cells #[.int .i64 t415, .int .i64 t416, .int .i64 t417] 46 (0, 0)) (bk_ BK421) k_ hk, Kd.freshB (g := gb422) (o := .cells #[.int .i64 t418, .int .i64 t419, .int .i64 t420] 46 (0, 0)) (bk_ BK422) k_ hk⟩ | grind))
             (case aO => exact (by (with_reducible repeat (first | apply Kd.Q_alloc | apply Kd.Q_drewN | apply Kd.Q_drew)); exact HO_7.out))
             (case aS => exact (below_size (bf_ HB)))
             (case aL => have := LMc82.out; omega)
             intro v433 w111 ho hb hg hat
             rw [← Ny432.out] at ho
             have n0_ := Aside0.mk (blk_grown (g := gb395) (o := .cells #[.int .i64 x396000_1, .int .i64 x396001_1, .int .i64 x396002_1] 46 (0, 0)) (bk_ BK395) hg (Kd.Q_away HO_7.out (fun _ hk => by first | exact hk.2.2.2.1 | grind)))
             have n1_ := Aside0.mk (blk_grown (g := gb402) (o := .cells #[.int .i64 x403000_1, .int .i64 x403001_1, .int .i64 x403002_1] 46 (0, 0)) (bk_ BK402) hg (Kd.Q_away HO_7.out (fun _ hk => by first | exact hk.2.2.2.2.1 | grind)))
             have n2_ := Aside0.mk (blk_grown (g := gb404) (o := .cells #[.bool ((rd_T51 l0 x23_1).f0), .int .i64 ((rd_T51 l0 x23_1).f1.f0), .int .i64 ((rd_T51 l0 x23_1).f1.f1), .int .i64 ((rd_T51 l0 x23_1).f1.f2)] 51 (0, 0)) (bk_ BK404) hg (Kd.Q_ne HO_7.out BK404.out (by decide)))
             have n3_ := Aside0.mk (blk_grown (g := gb421) (o := .cells #[.int .i64 t415, .int .i64 t416, .int .i64 t417] 46 (0, 0)) (bk_ BK421) hg (Kd.Q_away HO_7.out (fun _ hk => by first | exact hk.2.2.2.2.2.1 | grind)))
             have n4_ := Aside0.mk (blk_grown (g := gb422) (o := .cells #[.int .i64 t418, .int .i64 t419, .int .i64 t420] 46 (0, 0)) (bk_ BK422) hg (Kd.Q_away HO_7.out (fun _ hk => by first | exact hk.2.2.2.2.2.2 | grind)))
             have n5_ := Aside0.mk (Kd.R_after (ok := (fun k_ => some k_ ≠ (v427 : Value).ownBlock ∧ some k_ ≠ (.slice Ao112 y429.length co112 : Value).ownBlock ∧ k_ ≠ gb395 ∧ k_ ≠ gb402 ∧ k_ ≠ gb421 ∧ k_ ≠ gb422)) (by (with_reducible repeat (first | apply Kd.R_alloc | apply Kd.R_drewN | apply Kd.R_drew)); exact Kd.R_mono HO425.out (fun _ hk => by first | exact ⟨⟨hk.1, ⟨hk.2.1, ⟨hk.2.2.2.1, ⟨hk.2.2.2.2.1, ⟨hk.2.2.2.2.2.1, hk.2.2.2.2.2.2⟩⟩⟩⟩⟩, hk.2.2.1⟩ | grind)) hg hat)
             have n6_ := Aside0.mk (Kd.R_after (ok := (fun k_ => some k_ ≠ (v424 : Value).ownBlock ∧ some k_ ≠ (.slice Ao112 y429.length co112 : Value).ownBlock ∧ k_ ≠ gb395 ∧ k_ ≠ gb402 ∧ k_ ≠ gb421 ∧ k_ ≠ gb422)) (by (with_reducible repeat (first | apply Kd.R_alloc | apply Kd.R_drewN | apply Kd.R_drew)); exact Kd.R_mono HO428.out (fun _ hk => by first | exact ⟨⟨hk.1, ⟨hk.2.1, ⟨hk.2.2.2.1, ⟨hk.2.2.2.2.1, ⟨hk.2.2.2.2.2.1, hk.2.2.2.2.2.2⟩⟩⟩⟩⟩, hk.2.2.1⟩ | grind)) hg hat)
             have n7_ := Aside0.mk (Kd.R_after (ok := (fun k_ => some k_ ≠ (v424 : Value).ownBlock ∧ some k_ ≠ (v427 : Value).ownBlock ∧ k_ ≠ gb395 ∧ k_ ≠ gb402 ∧ k_ ≠ gb421 ∧ k_ ≠ gb422)) (by (with_reducible repeat (first | apply Kd.R_alloc | apply Kd.R_drewN | apply Kd.R_drew)); exact Kd.R_mono HO431.out (fun _ hk => by first | exact ⟨⟨hk.1, ⟨hk.2.1, ⟨hk.2.2.2.1, ⟨hk.2.2.2.2.1, ⟨hk.2.2.2.2.2.1, hk.2.2.2.2.2.2⟩⟩⟩⟩⟩, hk.2.2.1⟩ | grind)) hg hat)
             have n8_ := Aside0.mk (hb); have n9_ := Aside0.mk (ho); clear BK395 BK402 BK404 BK421 BK422 HO425 HO428 HO431 HB HO_7; have BK395 := n0_; have BK402 := n1_; have BK404 := n2_; have BK421 := n3_; have BK422 := n4_; have HO425 := n5_; have HO428 := n6_; have HO431 := n7_; have HB := n8_; have HO434 := n9_; clear n0_ n1_ n2_ n3_ n4_ n5_ n6_ n7_ n8_ n9_ ho hb hg hat
             refine hK.out _ _ ⟨bt_ BK421 0, bt_ BK421 1, bt_ BK421 2, bt_ BK404 0, bt_ BK404 1, bt_ BK404 2, bt_ BK404 3, bt_ BK422 0, bt_ BK422 1, bt_ BK422 2⟩ (fun hHeld => ?_)
             clear hK K
             refine norm_ (a' := ?_) ?_ ?_
             rotate_left
             ·show Act.put _ (some 62) _ = _
              simp only [Act.put, ls0_, ls1_, ls2_, i64_w, i32_w]
              rfl
             refine ps_ 10 5 (bs 13 11) HT_ ?_
             refine ps_ 11 7 (bs 13 12) HT_ ?_
             refine on_ 12 none (bs 13 13) HT_ (fun K hK => ?_)
             have hs113 := bc_ BK402 0 (.int .i64 x403000_1) rfl; have hfs113 := blk_frozen BK402.out 0; have hns113_0 := NB395_402.out; have hns113_2 := NB404_402.out; have hns113_3 := NB421_402.out; have hns113_4 := NB422_402.out; have hms113_0 := NB402_395.out; have hms113_2 := NB402_404.out; have hms113_3 := NB402_421.out; have hms113_4 := NB402_422.out; have hs114 := bc_ BK402 1 (.int .i64 x403001_1) rfl; have hfs114 := blk_frozen BK402.out 1; have hns114_0 := NB395_402.out; have hns114_2 := NB404_402.out; have hns114_3 := NB421_402.out; have hns114_4 := NB422_402.out; have hms114_0 := NB402_395.out; have hms114_2 := NB402_404.out; have hms114_3 := NB402_421.out; have hms114_4 := NB402_422.out; have hs115 := bc_ BK402 2 (.int .i64 x403002_1) rfl; have hfs115 := blk_frozen BK402.out 2; have hns115_0 := NB395_402.out; have hns115_2 := NB404_402.out; have hns115_3 := NB421_402.out; have hns115_4 := NB422_402.out; have hms115_0 := NB402_395.out; have hms115_2 := NB402_404.out; have hms115_3 := NB402_421.out; have hms115_4 := NB402_422.out
             refine skip_ (w1 := ?_) (by rfl) rfl ?_ ?_
             rotate_left
             ·go_simp
              rfl
             refine hK.out _ _ ⟨(cf3_ NB421_402.out hHeld.1), (cf3_ NB421_402.out hHeld.2.1), (cf3_ NB421_402.out hHeld.2.2.1), (cf3_ NB404_402.out hHeld.2.2.2.1), (cf3_ NB404_402.out hHeld.2.2.2.2.1), (cf3_ NB404_402.out hHeld.2.2.2.2.2.1), (cf3_ NB404_402.out hHeld.2.2.2.2.2.2.1), (cf3_ NB422_402.out hHeld.2.2.2.2.2.2.2.1), (cf3_ NB422_402.out hHeld.2.2.2.2.2.2.2.2.1), (cf3_ NB422_402.out hHeld.2.2.2.2.2.2.2.2.2)⟩ (fun hHeld => ?_)
             clear hK K
             refine done_ (done_of HT_.out (by kernel_rfl)) ?_
             try go_wp2
             go_roundg kj15
             case measure => have := HK1.out; have := HJ15.out; omega
             case rel => exact ⟨(y426), (y432), (wrap64 (x23_1 + 1)), (x396000_1), (x396001_1), (x396002_1), (t418), (t419), (t420), (by first | rfl | (simp; done) | (simp [*]; done)), H', ⟨by have := HK1.out; have := HJ15.out; omega⟩, ⟨by (with_reducible repeat (first | apply Kd.R_alloc | apply Kd.R_drewN | apply Kd.R_drew)); exact Kd.R_mono (Kd.R_far (p := ⟨gb402, 2, none⟩) (Kd.R_far (p := ⟨gb402, 1, none⟩) (Kd.R_far (p := ⟨gb402, 0, none⟩) (Kd.R_mono HO428.out (fun k_ hk => by first | exact (⟨hk, hk.1.2.2.2.1⟩ : _ ∧ k_ ≠ gb402) | grind)) (fun _ hk => by first | exact hk.2 | grind) (.int .i64 t418)) (fun _ hk => by first | exact hk.2 | grind) (.int .i64 t419)) (fun _ hk => by first | exact hk.2 | grind) (.int .i64 t420)) (fun _ hk => by first | exact ⟨hk.1.2, ⟨hk.1.1.2.2.1, hk.1.1.2.2.2.1⟩⟩ | grind)⟩, ⟨by (with_reducible repeat (first | apply Kd.Q_alloc | apply Kd.Q_drewN | apply Kd.Q_drew)); exact Kd.Q_mono (Kd.Q_far (p := ⟨gb402, 2, none⟩) (Kd.Q_far (p := ⟨gb402, 1, none⟩) (Kd.Q_far (p := ⟨gb402, 0, none⟩) (Kd.Q_mono HO434.out (fun k_ hk => by first | exact (⟨hk, hk.2.2.2.2.1⟩ : _ ∧ k_ ≠ gb402) | grind)) (fun _ hk => by first | exact hk.2 | grind) (.int .i64 t418)) (fun _ hk => by first | exact hk.2 | grind) (.int .i64 t419)) (fun _ hk => by first | exact hk.2 | grind) (.int .i64 t420)) (fun _ hk => by first | exact ⟨hk.1.2.1, ⟨hk.1.2.2.2.1, hk.1.2.2.2.2.1⟩⟩ | grind)⟩, ⟨by (with_reducible repeat (first | refine blk_drewN ?_ _ | refine blk_drew ?_ | refine blk_alloc ?_ _)); refine blk_far ?_ NB395_402.out _; (with_reducible repeat (first | refine blk_drewN ?_ _ | refine blk_drew ?_ | refine blk_alloc ?_ _)); refine blk_far ?_ NB395_402.out _; (with_reducible repeat (first | refine blk_drewN ?_ _ | refine blk_drew ?_ | refine blk_alloc ?_ _)); refine blk_far ?_ NB395_402.out _; exact bk_ BK395⟩, ⟨by (with_reducible repeat (first | refine blk_drewN ?_ _ | refine blk_drew ?_ | refine blk_alloc ?_ _)); refine blk_put (cs := #[.int .i64 t418, .int .i64 t419, .int .i64 x403002_1]) ?_ 2 _ rfl; (with_reducible repeat (first | refine blk_drewN ?_ _ | refine blk_drew ?_ | refine blk_alloc ?_ _)); refine blk_put (cs := #[.int .i64 t418, .int .i64 x403001_1, .int .i64 x403002_1]) ?_ 1 _ rfl; (with_reducible repeat (first | refine blk_drewN ?_ _ | refine blk_drew ?_ | refine blk_alloc ?_ _)); refine blk_put (cs := #[.int .i64 x403000_1, .int .i64 x403001_1, .int .i64 x403002_1]) ?_ 0 _ rfl; exact bk_ BK402⟩, ⟨bf_ HB⟩⟩
            ·rw [if_neg c82] at H
             exact absurd H (by simp)
           ·rw [if_neg c81] at H
            exact absurd H (by simp)
      ·rw [if_neg c15] at H
       exact absurd H (by simp)
     ·rw [if_neg c14] at H
      exact absurd H (by simp)
    ·rw [if_neg c13] at H
     have c13b0 : decide (x23_1 < (l0.length : Int)) = false := decide_eq_false c13
     clear c13
     simp only [Option.some.injEq, Prod.mk.injEq] at H
     obtain ⟨rfl, rfl, rfl, rfl, rfl⟩ := H
     try go_wp2
     replace HO_5 := Aside0.mk (Kd.R_drew HO_5.out); replace HO_7 := Aside0.mk (Kd.Q_drew HO_7.out); replace BK395 := Aside0.mk (blk_drew BK395.out); replace BK402 := Aside0.mk (blk_drew BK402.out); replace HB := Aside0.mk (below_drew1 HB.out)
     refine start_ (n := 5) (S := fun w' => cw_ w' gb402 0 (.int .i64 x403000_1) ∧ cw_ w' gb402 1 (.int .i64 x403001_1) ∧ cw_ w' gb402 2 (.int .i64 x403002_1)) (ds := []) (bs 5 0) (by kernel_rfl) rfl rfl ⟨bt_ BK402 0, bt_ BK402 1, bt_ BK402 2⟩ (fun hHeld => ?_)
     generalize wr.drew = w116 at HO_5 HO_7 BK395 BK402 HB hHeld ⊢
     refine ps0_ 0 83 (bs 5 1) ?_
     refine ps0_ 2 2 #[oT,oF,oT,oF,oF] ?_
     refine tk0_ 1 84 (bs 5 3) hHeld ?_
     refine on0_ 3 none (bs 5 4) (fun K hK => ?_)
     have hs117 := bc_ BK395 0 (.int .i64 x396000_1) rfl; have hfs117 := blk_frozen BK395.out 0; have hns117_1 := NB402_395.out; have hms117_1 := NB395_402.out; have hs118 := bc_ BK395 1 (.int .i64 x396001_1) rfl; have hfs118 := blk_frozen BK395.out 1; have hns118_1 := NB402_395.out; have hms118_1 := NB395_402.out; have hs119 := bc_ BK395 2 (.int .i64 x396002_1) rfl; have hfs119 := blk_frozen BK395.out 2; have hns119_1 := NB402_395.out; have hms119_1 := NB395_402.out
     refine skip_ (w1 := ?_) (by rfl) rfl ?_ ?_
     rotate_left
     ·go_simp
      rfl
     refine hK.out _ _ ⟨(cf3_ NB402_395.out hHeld.1), (cf3_ NB402_395.out hHeld.2.1), (cf3_ NB402_395.out hHeld.2.2)⟩ (fun hHeld => ?_)
     clear hK K
     refine ps0_ 4 4 (bs 5 5) ?_
     refine done_ (by kernel_rfl) ?_
     try go_wp2
     refine bodyPost_ret (results_list (rs := [.tmp 2, .cell 3 46, .tmp 4]) rfl (by simp) (.tmp (.cell gb395 46 #[.int .i64 x403000_1, .int .i64 x403001_1, .int .i64 x403002_1] (0, 0) _ rfl (by (with_reducible repeat (first | refine blk_drewN ?_ _ | refine blk_drew ?_ | refine blk_alloc ?_ _)); refine blk_put (cs := #[.int .i64 x403000_1, .int .i64 x403001_1, .int .i64 x396002_1]) ?_ 2 _ rfl; (with_reducible repeat (first | refine blk_drewN ?_ _ | refine blk_drew ?_ | refine blk_alloc ?_ _)); refine blk_put (cs := #[.int .i64 x403000_1, .int .i64 x396001_1, .int .i64 x396002_1]) ?_ 1 _ rfl; (with_reducible repeat (first | refine blk_drewN ?_ _ | refine blk_drew ?_ | refine blk_alloc ?_ _)); refine blk_put (cs := #[.int .i64 x396000_1, .int .i64 x396001_1, .int .i64 x396002_1]) ?_ 0 _ rfl; exact bk_ BK395) Try.underlying46 rfl (by kernel_rfl) (.tmp .nil)))) rfl ?_
     exact ⟨_, by first | rfl | (simp [errW_none, errW_some] <;> rfl) | (simp [*, errW_none, errW_some] <;> rfl), by (with_reducible repeat (first | apply Kd.R_alloc | apply Kd.R_drewN | apply Kd.R_drew)); exact Kd.R_mono (Kd.R_far (p := ⟨gb395, 2, none⟩) (Kd.R_far (p := ⟨gb395, 1, none⟩) (Kd.R_far (p := ⟨gb395, 0, none⟩) (Kd.R_mono HO_5.out (fun k_ hk => by first | exact (⟨hk, hk.2.1⟩ : _ ∧ k_ ≠ gb395) | grind)) (fun _ hk => by first | exact hk.2 | grind) (.int .i64 x403000_1)) (fun _ hk => by first | exact hk.2 | grind) (.int .i64 x403001_1)) (fun _ hk => by first | exact hk.2 | grind) (.int .i64 x403002_1)) (fun _ hk => by first | exact trivial | grind), bf_ HB⟩

end Go.Proofs.Ytlafobfjbkhioaa.PFnCarryBound
