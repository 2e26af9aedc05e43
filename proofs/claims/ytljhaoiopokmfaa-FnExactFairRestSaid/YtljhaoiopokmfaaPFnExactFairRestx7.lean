-- printed by a program of this session (wip/printx) out of the translation; Lean checks it
import Derived.Test.YtljhaoiopokmfaaPFnExactFairRestx0
import Derived.Test.YtljhaoiopokmfaaPFnExactFairRestx4
import Derived.Test.YtljhaoiopokmfaaPFnExactFairRestx5
import Derived.Test.YtljhaoiopokmfaaPFnExactFairRestx6
namespace Go.Proofs.Ytljhaoiopokmfaa.PFnExactFairRest
open Go.RowKit Go.Proofs.YtljhaoiopokmfaaW.PrintWords Go.Proofs.YtljhaoiopokmfaaW.PrintLast Go.Proofs.YtljhaoiopokmfaaW.PrintMore
attribute [local go_sem] max2_int min2_int max_two min_two max_three min_three max_four min_four   -- for this text's walks alone
set_option linter.unusedVariables false
set_option linter.unusedSimpArgs false

/-! ### impl_FairOk: function 18 -/
mutual
def impl_FairOk.j0 : Nat → Bool → Int → Int → Int → Int → List (S38) → Option (Bool)
  | 0, _, _, _, _, _, _ => none
  | k + 1, x22, x216000, x216001, x216002, x216003, x216004 => if x22 = true then (some false) else (impl_FairOk.l0 k x216004 (x216004.length : Int) 0 x216000 x216001 x216002 x216003 x216004)
def impl_FairOk.l0 : Nat → List (S38) → Int → Int → Int → Int → Int → Int → List (S38) → Option (Bool)
  | 0, _, _, _, _, _, _, _, _ => none
  | k + 1, x24, x25, x26, x216000, x216001, x216002, x216003, x216004 => if x26 < x25 then (if 0 ≤ x26 then (if x26 < (x24.length : Int) then ((impl_Fair_kidOk.f x216000 x216001 x216002 x216003 x216004 ((rd_T38 x24 x26).f0) ((rd_T38 x24 x26).f1) ((rd_T38 x24 x26).f2) ((rd_T38 x24 x26).f3.f0) ((rd_T38 x24 x26).f3.f1) ((rd_T38 x24 x26).f3.f2)).bind fun t220 => (if t220 = true then (if x26 > 0 then (if 0 ≤ (wrap64 (x26 - 1)) then (if (wrap64 (x26 - 1)) < (x216004.length : Int) then (if ((rd_T38 x216004 (wrap64 (x26 - 1))).f0) ≥ ((rd_T38 x24 x26).f0) then (some false) else (impl_FairOk.l0 k x24 x25 (wrap64 (x26 + 1)) x216000 x216001 x216002 x216003 x216004)) else (none)) else (none)) else (impl_FairOk.l0 k x24 x25 (wrap64 (x26 + 1)) x216000 x216001 x216002 x216003 x216004)) else (some false))) else (none)) else (none)) else (some true)
end
def impl_FairOk.f (k : Nat) (a0_0 : Int) (a0_1 : Int) (a0_2 : Int) (a0_3 : Int) (l0_4 : List (S38)) : Option (Bool) := (impl_Narrow.f a0_1 a0_2 a0_3 a0_0).bind fun t216 => (if t216 = true then ((impl_VecTop.f a0_1 a0_2 a0_3).bind fun t217 => (if t217 > 100000000000 then (impl_FairOk.j0 k true a0_0 a0_1 a0_2 a0_3 l0_4) else (impl_FairOk.j0 k (decide ((l0_4.length : Int) > 48)) a0_0 a0_1 a0_2 a0_3 l0_4))) else (impl_FairOk.j0 k true a0_0 a0_1 a0_2 a0_3 l0_4))
theorem impl_FairOk.mono_l : ∀ k, (∀ y0 y1 y2 y3 y4 y5, LeO (impl_FairOk.j0 k y0 y1 y2 y3 y4 y5) (impl_FairOk.j0 (k + 1) y0 y1 y2 y3 y4 y5)) ∧ (∀ y0 y1 y2 y3 y4 y5 y6 y7, LeO (impl_FairOk.l0 k y0 y1 y2 y3 y4 y5 y6 y7) (impl_FairOk.l0 (k + 1) y0 y1 y2 y3 y4 y5 y6 y7))
 | 0 => ⟨fun _ _ _ _ _ _ r h => by simp [impl_FairOk.j0] at h, fun _ _ _ _ _ _ _ _ r h => by simp [impl_FairOk.l0] at h⟩
 | k + 1 => by
  obtain ⟨ih0, ih1⟩ := impl_FairOk.mono_l k
  refine ⟨?_, ?_⟩
  ·intro y0 y1 y2 y3 y4 y5
   unfold impl_FairOk.j0
   repeat' first
   | (with_reducible exact ih0 _ _ _ _ _ _)
   | (with_reducible exact ih1 _ _ _ _ _ _ _ _)
   | (with_reducible exact LeO.refl _)
   | (with_reducible exact LeO.none _)
   | (with_reducible refine LeO.ite ?_ ?_)
   | (with_reducible refine LeO.bind ?_ (fun _ => ?_))
   | exact ih0 _ _ _ _ _ _
   | exact ih1 _ _ _ _ _ _ _ _
   | exact LeO.none _
   | refine LeO.ite ?_ ?_
   | refine LeO.bind ?_ (fun _ => ?_)
  ·intro y0 y1 y2 y3 y4 y5 y6 y7
   unfold impl_FairOk.l0
   repeat' first
   | (with_reducible exact ih0 _ _ _ _ _ _)
   | (with_reducible exact ih1 _ _ _ _ _ _ _ _)
   | (with_reducible exact LeO.refl _)
   | (with_reducible exact LeO.none _)
   | (with_reducible refine LeO.ite ?_ ?_)
   | (with_reducible refine LeO.bind ?_ (fun _ => ?_))
   | exact ih0 _ _ _ _ _ _
   | exact ih1 _ _ _ _ _ _ _ _
   | exact LeO.none _
   | refine LeO.ite ?_ ?_
   | refine LeO.bind ?_ (fun _ => ?_)
theorem impl_FairOk.mono : ∀ a0 a1 a2 a3 a4 k, LeO (impl_FairOk.f k a0 a1 a2 a3 a4) (impl_FairOk.f (k + 1) a0 a1 a2 a3 a4) := by
 intro a0 a1 a2 a3 a4 k
 obtain ⟨ih0, ih1⟩ := impl_FairOk.mono_l k
 unfold impl_FairOk.f
 repeat' first
   | (with_reducible exact ih0 _ _ _ _ _ _)
   | (with_reducible exact ih1 _ _ _ _ _ _ _ _)
   | (with_reducible exact LeO.refl _)
   | (with_reducible exact LeO.none _)
   | (with_reducible refine LeO.ite ?_ ?_)
   | (with_reducible refine LeO.bind ?_ (fun _ => ?_))
   | exact ih0 _ _ _ _ _ _
   | exact ih1 _ _ _ _ _ _ _ _
   | exact LeO.none _
   | refine LeO.ite ?_ ?_
   | refine LeO.bind ?_ (fun _ => ?_)
def impl_FairOk.T6 : Bool × List (List Nat × List Nat) := (true, [([], []), ([], []), ([0, 1], [0, 1]), ([2], [2]), ([3, 2], [3]), ([4], [4]), ([5, 4], [4, 5]), ([6, 4, 4], [4, 6]), ([7], [7]), ([8, 7], [7, 8]), ([7], [7]), ([10, 7], [7, 10]), ([9, 11, 7], [7, 9, 11]), ([12, 7], [7, 12]), ([13, 7], [7, 13]), ([7], [7]), ([15, 7], [7, 15]), ([14, 16, 7], [7, 14, 16]), ([7, 17, 4], [4, 7, 17]), ([4, 18], [4, 18])])
def impl_FairOk.B6 : List Nat := [0, 0, 3, 7, 15, 31, 63, 127, 255, 511, 255, 1279, 4095, 8191, 16383, 255, 33023, 131071, 262143, 524287]
theorem impl_FairOk.tab6 : rtab .any (opsOf Try.f18 6) = impl_FairOk.T6 := by kernel_rfl
theorem impl_FairOk.bits6 : waitsOk impl_FairOk.T6.2 impl_FairOk.B6 = true := by kernel_rfl
set_option maxHeartbeats 8000000 in
set_option maxRecDepth 100000 in
theorem impl_FairOk.calls (k : Nat) (a0_0 : Int) (a0_1 : Int) (a0_2 : Int) (a0_3 : Int) (A0_4 : Option Addr) (c0_4 : Nat) (l0_4 : List (S38)) (r : Bool) (w : World) (hr0_4 : Kd.C k38 w A0_4 l0_4.length l0_4) (hc0_4 : l0_4.length ≤ c0_4) (h : impl_FairOk.f k a0_0 a0_1 a0_2 a0_3 l0_4 = some r) :
  Calls Try.prog 18 #[.agg #[.int .i64 a0_0, .int .i64 a0_1, .int .i64 a0_2, .int .i64 a0_3, .slice A0_4 l0_4.length c0_4]] w fun e w' => e = .returned (.bool r) ∧ Below w.heap.size w w' := by
 have hu32 := Try.underlying32
 have hu29 := Try.underlying29
 have hu38 := Try.underlying38
 have HR0_4 := Aside0.mk hr0_4
 have HC0_4 := Aside0.mk hc0_4
 clear hr0_4 hc0_4
 have HB := Aside0.mk (Below.refl w.heap.size w)
 have H : ((impl_Narrow.f a0_1 a0_2 a0_3 a0_0).bind fun t216 => (if t216 = true then ((impl_VecTop.f a0_1 a0_2 a0_3).bind fun t217 => (if t217 > 100000000000 then (impl_FairOk.j0 k true a0_0 a0_1 a0_2 a0_3 l0_4) else (impl_FairOk.j0 k (decide ((l0_4.length : Int) > 48)) a0_0 a0_1 a0_2 a0_3 l0_4))) else (impl_FairOk.j0 k true a0_0 a0_1 a0_2 a0_3 l0_4))) = some r := h
 clear h
 have HC2 := Aside0.mk H
 clear H
 go_enter Try.func18, Try.ntmps18
 go_upto_region 1 with (first | ((with_reducible refine gate_dst (N := 1) rfl ?_); (try (refine gate_guard (by rfl) ?_; dsimp only)); refine box_event ?hg (N := 1) ?hd (cs := #[.int .i64 a0_0, .int .i64 a0_1, .int .i64 a0_2, .int .i64 a0_3, .slice A0_4 l0_4.length c0_4]) (t := 32) ?hr ?_; (case hd => rfl); (case hg => rfl); (case hr => first | (go_simp; done) | (go_simp; rfl)); intro gb215 hg w3 hbox hb; have n0_ := Aside0.mk (below_step (be_ HB) hb); have n1_ := Aside0.mk (hbox); have n2_ := Aside0.mk ((by rw [hg]; exact (below_size (be_ HB)) : w.heap.size ≤ gb215)); have n3_ := Aside0.mk ((by rw [hg]; exact (below_size (be_ HB)) : w.heap.size ≤ gb215)); clear HB; have HB := n0_; have BK215 := n1_; have GW215 := n2_; have GE215 := n3_; clear n0_ n1_ n2_ n3_; clear hb hbox hg))
 (try simp only [Act.put, List.setIfInBounds_toArray, List.set_cons_zero, List.set_cons_succ])
 go_cut [22] (fun v22 wc => ∃ (kq : Nat) (x22_1 : Bool), v22 = .bool x22_1 ∧ Aside0 (impl_FairOk.j0 kq x22_1 a0_0 a0_1 a0_2 a0_3 l0_4 = some r) ∧ Aside0 (kq ≤ k) ∧ Aside0 (wc.heap[gb215]? = some (.cells #[.int .i64 a0_0, .int .i64 a0_1, .int .i64 a0_2, .int .i64 a0_3, (.slice A0_4 l0_4.length c0_4)] 32 (0, 0))) ∧ Aside0 (Below w.heap.size w wc))
 case first =>
  have H := HC2.out
  clear HC2
  replace H := Option.bind_eq_some_iff.mp H
  obtain ⟨t216, A40, H⟩ := H
  replace H : (if t216 = true then ((impl_VecTop.f a0_1 a0_2 a0_3).bind fun t217 => (if t217 > 100000000000 then (impl_FairOk.j0 k true a0_0 a0_1 a0_2 a0_3 l0_4) else (impl_FairOk.j0 k (decide ((l0_4.length : Int) > 48)) a0_0 a0_1 a0_2 a0_3 l0_4))) else (impl_FairOk.j0 k true a0_0 a0_1 a0_2 a0_3 l0_4)) = some r := H
  have A4 := Aside0.mk A40
  clear A40
  by_cases c5 : t216 = true
  ·subst c5
   have H1 : ((impl_VecTop.f a0_1 a0_2 a0_3).bind fun t217 => (if t217 > 100000000000 then (impl_FairOk.j0 k true a0_0 a0_1 a0_2 a0_3 l0_4) else (impl_FairOk.j0 k (decide ((l0_4.length : Int) > 48)) a0_0 a0_1 a0_2 a0_3 l0_4))) = some r := by rw [if_pos rfl] at H; exact H
   clear H
   have H := H1
   clear H1
   replace H := Option.bind_eq_some_iff.mp H
   obtain ⟨t217, A60, H⟩ := H
   replace H : (if t217 > 100000000000 then (impl_FairOk.j0 k true a0_0 a0_1 a0_2 a0_3 l0_4) else (impl_FairOk.j0 k (decide ((l0_4.length : Int) > 48)) a0_0 a0_1 a0_2 a0_3 l0_4)) = some r := H
   have A6 := Aside0.mk A60
   clear A60
   by_cases c7 : t217 > 100000000000
   ·rw [if_pos c7] at H
    have c7b0 : decide (100000000000 < t217) = true := decide_eq_true c7
    clear c7
    (first | rw [c7b0] | (simp only [i64_w, i32_w]; rw [c7b0]) | skip)
    have H' := Aside0.mk H
    clear H
    have hcz8_0 : w3.cell? ⟨gb215, 0, none⟩ = some (.int .i64 a0_0) := (blk_cell BK215.out 0).trans rfl
    have hcz8_1 : w3.cell? ⟨gb215, 1, none⟩ = some (.int .i64 a0_1) := (blk_cell BK215.out 1).trans rfl
    have hcz8_2 : w3.cell? ⟨gb215, 2, none⟩ = some (.int .i64 a0_2) := (blk_cell BK215.out 2).trans rfl
    have hcz8_3 : w3.cell? ⟨gb215, 3, none⟩ = some (.int .i64 a0_3) := (blk_cell BK215.out 3).trans rfl
    have hcz8_4 : w3.cell? ⟨gb215, 4, none⟩ = some (.slice A0_4 l0_4.length c0_4) := (blk_cell BK215.out 4).trans rfl
    have hfz8_0 := blk_frozen BK215.out 0
    have hfz8_1 := blk_frozen BK215.out 1
    have hfz8_2 := blk_frozen BK215.out 2
    have hfz8_3 := blk_frozen BK215.out 3
    have hfz8_4 := blk_frozen BK215.out 4
    go_wp2_with (first | ((with_reducible refine gate_callee (f := 51) rfl ?_); refine goesL_ (some 9) rfl rfl Try.func51 (by kernel_rfl) rfl #[.agg #[.int .i64 a0_1, .int .i64 a0_2, .int .i64 a0_3], .int .i64 a0_0] rfl mt_ ?_; (with_reducible refine (impl_Narrow.calls a0_1 a0_2 a0_3 a0_0 true _ A4.out).mono ?_); rintro e w9 ⟨rfl, hb⟩; refine ⟨_, rfl, ?_⟩; have n0_ := Aside0.mk (blk_below (g := gb215) (o := .cells #[.int .i64 a0_0, .int .i64 a0_1, .int .i64 a0_2, .int .i64 a0_3, .slice A0_4 l0_4.length c0_4] 32 (0, 0)) (bk_ BK215) hb); have n1_ := Aside0.mk (below_step (by repeat (first | (with_reducible first | exact HB.out | apply below_alloc | apply pw_below_drewN | apply below_drew1 | refine below_set ?_ GE215.out) | exact HB.out)) hb); clear BK215; clear HB; have BK215 := n0_; have HB := n1_; clear n0_ n1_; (try clear hb); (try clear hb2); (try clear hk); (try clear hi); have hcz10_0 : w9.cell? ⟨gb215, 0, none⟩ = some (.int .i64 a0_0) := (blk_cell BK215.out 0).trans rfl; have hcz10_1 : w9.cell? ⟨gb215, 1, none⟩ = some (.int .i64 a0_1) := (blk_cell BK215.out 1).trans rfl; have hcz10_2 : w9.cell? ⟨gb215, 2, none⟩ = some (.int .i64 a0_2) := (blk_cell BK215.out 2).trans rfl; have hcz10_3 : w9.cell? ⟨gb215, 3, none⟩ = some (.int .i64 a0_3) := (blk_cell BK215.out 3).trans rfl; have hcz10_4 : w9.cell? ⟨gb215, 4, none⟩ = some (.slice A0_4 l0_4.length c0_4) := (blk_cell BK215.out 4).trans rfl; have hfz10_0 := blk_frozen BK215.out 0; have hfz10_1 := blk_frozen BK215.out 1; have hfz10_2 := blk_frozen BK215.out 2; have hfz10_3 := blk_frozen BK215.out 3; have hfz10_4 := blk_frozen BK215.out 4) | (go_at_call 52; (with_reducible refine (impl_VecTop.calls a0_1 a0_2 a0_3 t217 _ A6.out).mono ?_); rintro e w11 ⟨rfl, hb⟩; have n0_ := Aside0.mk (blk_below (g := gb215) (o := .cells #[.int .i64 a0_0, .int .i64 a0_1, .int .i64 a0_2, .int .i64 a0_3, .slice A0_4 l0_4.length c0_4] 32 (0, 0)) (bk_ BK215) hb); have n1_ := Aside0.mk (below_step (by repeat (first | (with_reducible first | exact HB.out | apply below_alloc | apply pw_below_drewN | apply below_drew1 | refine below_set ?_ GE215.out) | exact HB.out)) hb); clear BK215; clear HB; have BK215 := n0_; have HB := n1_; clear n0_ n1_; (try clear hb); (try clear hb2); (try clear hk); (try clear hi)))
    go_meet
    case rel => exact ⟨_, (true), (by first | rfl | (simp; done) | (simp [*]; done)), H', ⟨by first | omega | exact Nat.le_refl _⟩, ⟨bk_ BK215⟩, ⟨by repeat (first | (with_reducible first | exact HB.out | apply below_alloc | apply pw_below_drewN | apply below_drew1 | refine below_set ?_ GE215.out) | exact HB.out)⟩⟩
   ·rw [if_neg c7] at H
    have c7b0 : decide (100000000000 < t217) = false := decide_eq_false c7
    clear c7
    (first | rw [c7b0] | (simp only [i64_w, i32_w]; rw [c7b0]) | skip)
    have H' := Aside0.mk H
    clear H
    have hcz12_0 : w3.cell? ⟨gb215, 0, none⟩ = some (.int .i64 a0_0) := (blk_cell BK215.out 0).trans rfl
    have hcz12_1 : w3.cell? ⟨gb215, 1, none⟩ = some (.int .i64 a0_1) := (blk_cell BK215.out 1).trans rfl
    have hcz12_2 : w3.cell? ⟨gb215, 2, none⟩ = some (.int .i64 a0_2) := (blk_cell BK215.out 2).trans rfl
    have hcz12_3 : w3.cell? ⟨gb215, 3, none⟩ = some (.int .i64 a0_3) := (blk_cell BK215.out 3).trans rfl
    have hcz12_4 : w3.cell? ⟨gb215, 4, none⟩ = some (.slice A0_4 l0_4.length c0_4) := (blk_cell BK215.out 4).trans rfl
    have hfz12_0 := blk_frozen BK215.out 0
    have hfz12_1 := blk_frozen BK215.out 1
    have hfz12_2 := blk_frozen BK215.out 2
    have hfz12_3 := blk_frozen BK215.out 3
    have hfz12_4 := blk_frozen BK215.out 4
    go_wp2_with (first | ((with_reducible refine gate_callee (f := 51) rfl ?_); refine goesL_ (some 9) rfl rfl Try.func51 (by kernel_rfl) rfl #[.agg #[.int .i64 a0_1, .int .i64 a0_2, .int .i64 a0_3], .int .i64 a0_0] rfl mt_ ?_; (with_reducible refine (impl_Narrow.calls a0_1 a0_2 a0_3 a0_0 true _ A4.out).mono ?_); rintro e w13 ⟨rfl, hb⟩; refine ⟨_, rfl, ?_⟩; have n0_ := Aside0.mk (blk_below (g := gb215) (o := .cells #[.int .i64 a0_0, .int .i64 a0_1, .int .i64 a0_2, .int .i64 a0_3, .slice A0_4 l0_4.length c0_4] 32 (0, 0)) (bk_ BK215) hb); have n1_ := Aside0.mk (below_step (by repeat (first | (with_reducible first | exact HB.out | apply below_alloc | apply pw_below_drewN | apply below_drew1 | refine below_set ?_ GE215.out) | exact HB.out)) hb); clear BK215; clear HB; have BK215 := n0_; have HB := n1_; clear n0_ n1_; (try clear hb); (try clear hb2); (try clear hk); (try clear hi); have hcz14_0 : w13.cell? ⟨gb215, 0, none⟩ = some (.int .i64 a0_0) := (blk_cell BK215.out 0).trans rfl; have hcz14_1 : w13.cell? ⟨gb215, 1, none⟩ = some (.int .i64 a0_1) := (blk_cell BK215.out 1).trans rfl; have hcz14_2 : w13.cell? ⟨gb215, 2, none⟩ = some (.int .i64 a0_2) := (blk_cell BK215.out 2).trans rfl; have hcz14_3 : w13.cell? ⟨gb215, 3, none⟩ = some (.int .i64 a0_3) := (blk_cell BK215.out 3).trans rfl; have hcz14_4 : w13.cell? ⟨gb215, 4, none⟩ = some (.slice A0_4 l0_4.length c0_4) := (blk_cell BK215.out 4).trans rfl; have hfz14_0 := blk_frozen BK215.out 0; have hfz14_1 := blk_frozen BK215.out 1; have hfz14_2 := blk_frozen BK215.out 2; have hfz14_3 := blk_frozen BK215.out 3; have hfz14_4 := blk_frozen BK215.out 4) | (go_at_call 52; (with_reducible refine (impl_VecTop.calls a0_1 a0_2 a0_3 t217 _ A6.out).mono ?_); rintro e w15 ⟨rfl, hb⟩; have n0_ := Aside0.mk (blk_below (g := gb215) (o := .cells #[.int .i64 a0_0, .int .i64 a0_1, .int .i64 a0_2, .int .i64 a0_3, .slice A0_4 l0_4.length c0_4] 32 (0, 0)) (bk_ BK215) hb); have n1_ := Aside0.mk (below_step (by repeat (first | (with_reducible first | exact HB.out | apply below_alloc | apply pw_below_drewN | apply below_drew1 | refine below_set ?_ GE215.out) | exact HB.out)) hb); clear BK215; clear HB; have BK215 := n0_; have HB := n1_; clear n0_ n1_; (try clear hb); (try clear hb2); (try clear hk); (try clear hi); have hcz16_0 : w15.cell? ⟨gb215, 0, none⟩ = some (.int .i64 a0_0) := (blk_cell BK215.out 0).trans rfl; have hcz16_1 : w15.cell? ⟨gb215, 1, none⟩ = some (.int .i64 a0_1) := (blk_cell BK215.out 1).trans rfl; have hcz16_2 : w15.cell? ⟨gb215, 2, none⟩ = some (.int .i64 a0_2) := (blk_cell BK215.out 2).trans rfl; have hcz16_3 : w15.cell? ⟨gb215, 3, none⟩ = some (.int .i64 a0_3) := (blk_cell BK215.out 3).trans rfl; have hcz16_4 : w15.cell? ⟨gb215, 4, none⟩ = some (.slice A0_4 l0_4.length c0_4) := (blk_cell BK215.out 4).trans rfl; have hfz16_0 := blk_frozen BK215.out 0; have hfz16_1 := blk_frozen BK215.out 1; have hfz16_2 := blk_frozen BK215.out 2; have hfz16_3 := blk_frozen BK215.out 3; have hfz16_4 := blk_frozen BK215.out 4))
    go_meet
    case rel => exact ⟨_, (decide ((l0_4.length : Int) > 48)), (by first | rfl | (simp; done) | (simp [*]; done)), H', ⟨by first | omega | exact Nat.le_refl _⟩, ⟨bk_ BK215⟩, ⟨by repeat (first | (with_reducible first | exact HB.out | apply below_alloc | apply pw_below_drewN | apply below_drew1 | refine below_set ?_ GE215.out) | exact HB.out)⟩⟩
  ·replace c5 := Bool.eq_false_iff.mpr c5
   subst c5
   have H1 : (impl_FairOk.j0 k true a0_0 a0_1 a0_2 a0_3 l0_4) = some r := by rw [if_neg (show ¬ (false = true) by decide)] at H; exact H
   clear H
   have H := H1
   clear H1
   have H' := Aside0.mk H
   clear H
   have hcz17_0 : w3.cell? ⟨gb215, 0, none⟩ = some (.int .i64 a0_0) := (blk_cell BK215.out 0).trans rfl
   have hcz17_1 : w3.cell? ⟨gb215, 1, none⟩ = some (.int .i64 a0_1) := (blk_cell BK215.out 1).trans rfl
   have hcz17_2 : w3.cell? ⟨gb215, 2, none⟩ = some (.int .i64 a0_2) := (blk_cell BK215.out 2).trans rfl
   have hcz17_3 : w3.cell? ⟨gb215, 3, none⟩ = some (.int .i64 a0_3) := (blk_cell BK215.out 3).trans rfl
   have hcz17_4 : w3.cell? ⟨gb215, 4, none⟩ = some (.slice A0_4 l0_4.length c0_4) := (blk_cell BK215.out 4).trans rfl
   have hfz17_0 := blk_frozen BK215.out 0
   have hfz17_1 := blk_frozen BK215.out 1
   have hfz17_2 := blk_frozen BK215.out 2
   have hfz17_3 := blk_frozen BK215.out 3
   have hfz17_4 := blk_frozen BK215.out 4
   go_wp2_with (first | ((with_reducible refine gate_callee (f := 51) rfl ?_); refine goesL_ (some 9) rfl rfl Try.func51 (by kernel_rfl) rfl #[.agg #[.int .i64 a0_1, .int .i64 a0_2, .int .i64 a0_3], .int .i64 a0_0] rfl mt_ ?_; (with_reducible refine (impl_Narrow.calls a0_1 a0_2 a0_3 a0_0 false _ A4.out).mono ?_); rintro e w18 ⟨rfl, hb⟩; refine ⟨_, rfl, ?_⟩; have n0_ := Aside0.mk (blk_below (g := gb215) (o := .cells #[.int .i64 a0_0, .int .i64 a0_1, .int .i64 a0_2, .int .i64 a0_3, .slice A0_4 l0_4.length c0_4] 32 (0, 0)) (bk_ BK215) hb); have n1_ := Aside0.mk (below_step (by repeat (first | (with_reducible first | exact HB.out | apply below_alloc | apply pw_below_drewN | apply below_drew1 | refine below_set ?_ GE215.out) | exact HB.out)) hb); clear BK215; clear HB; have BK215 := n0_; have HB := n1_; clear n0_ n1_; (try clear hb); (try clear hb2); (try clear hk); (try clear hi)))
   go_meet
   case rel => exact ⟨_, (true), (by first | rfl | (simp; done) | (simp [*]; done)), H', ⟨by first | omega | exact Nat.le_refl _⟩, ⟨bk_ BK215⟩, ⟨by repeat (first | (with_reducible first | exact HB.out | apply below_alloc | apply pw_below_drewN | apply below_drew1 | refine below_set ?_ GE215.out) | exact HB.out)⟩⟩
 case rest =>
  clear HC2
  try clear c1
  try clear p2
  try clear c5
  try clear c7
  try clear c7b0
  try clear c18
  try clear hcz10_0
  try clear hcz10_1
  try clear hcz10_2
  try clear hcz10_3
  try clear hcz10_4
  try clear hcz12_0
  try clear hcz12_1
  try clear hcz12_2
  try clear hcz12_3
  try clear hcz12_4
  try clear hcz14_0
  try clear hcz14_1
  try clear hcz14_2
  try clear hcz14_3
  try clear hcz14_4
  try clear hcz16_0
  try clear hcz16_1
  try clear hcz16_2
  try clear hcz16_3
  try clear hcz16_4
  try clear hcz17_0
  try clear hcz17_1
  try clear hcz17_2
  try clear hcz17_3
  try clear hcz17_4
  try clear hcz8_0
  try clear hcz8_1
  try clear hcz8_2
  try clear hcz8_3
  try clear hcz8_4
  try clear hfz10_0
  try clear hfz10_1
  try clear hfz10_2
  try clear hfz10_3
  try clear hfz10_4
  try clear hfz12_0
  try clear hfz12_1
  try clear hfz12_2
  try clear hfz12_3
  try clear hfz12_4
  try clear hfz14_0
  try clear hfz14_1
  try clear hfz14_2
  try clear hfz14_3
  try clear hfz14_4
  try clear hfz16_0
  try clear hfz16_1
  try clear hfz16_2
  try clear hfz16_3
  try clear hfz16_4
  try clear hfz17_0
  try clear hfz17_1
  try clear hfz17_2
  try clear hfz17_3
  try clear hfz17_4
  try clear hfz8_0
  try clear hfz8_1
  try clear hfz8_2
  try clear hfz8_3
  try clear hfz8_4
  obtain ⟨kq, x22_1, rfl, HA, HJ1, BK215, HB⟩ := hcut
  cases kq with
  | zero => exact absurd HA.out (by simp [impl_FairOk.j0])
  | succ kj1 =>
   have H := HA.out
   clear HA
   simp only [impl_FairOk.j0] at H
   by_cases c19 : x22_1 = true
   ·subst c19
    have H1 : (some false) = some r := by rw [if_pos rfl] at H; exact H
    clear H
    have H := H1
    clear H1
    obtain rfl := Option.some.inj H
    go_wp2
    go_ret
    exact ⟨by first | rfl | (simp [errW_none, errW_some] <;> rfl) | (simp [*, errW_none, errW_some] <;> rfl), by repeat (first | (with_reducible first | exact HB.out | apply below_alloc | apply pw_below_drewN | apply below_drew1 | refine below_set ?_ GE215.out) | exact HB.out)⟩
   ·replace c19 := Bool.eq_false_iff.mpr c19
    subst c19
    have H1 : (impl_FairOk.l0 kj1 l0_4 (l0_4.length : Int) 0 a0_0 a0_1 a0_2 a0_3 l0_4) = some r := by rw [if_neg (show ¬ (false = true) by decide)] at H; exact H
    clear H
    have H := H1
    clear H1
    have H' := Aside0.mk H
    clear H
    have hcz20_0 : wc.cell? ⟨gb215, 0, none⟩ = some (.int .i64 a0_0) := (blk_cell BK215.out 0).trans rfl
    have hcz20_1 : wc.cell? ⟨gb215, 1, none⟩ = some (.int .i64 a0_1) := (blk_cell BK215.out 1).trans rfl
    have hcz20_2 : wc.cell? ⟨gb215, 2, none⟩ = some (.int .i64 a0_2) := (blk_cell BK215.out 2).trans rfl
    have hcz20_3 : wc.cell? ⟨gb215, 3, none⟩ = some (.int .i64 a0_3) := (blk_cell BK215.out 3).trans rfl
    have hcz20_4 : wc.cell? ⟨gb215, 4, none⟩ = some (.slice A0_4 l0_4.length c0_4) := (blk_cell BK215.out 4).trans rfl
    have hfz20_0 := blk_frozen BK215.out 0
    have hfz20_1 := blk_frozen BK215.out 1
    have hfz20_2 := blk_frozen BK215.out 2
    have hfz20_3 := blk_frozen BK215.out 3
    have hfz20_4 := blk_frozen BK215.out 4
    go_wp2
    go_loopg [26] kj1 (fun kq v26 w' => ∃ (x26_2 : Int), v26 = .int .i64 x26_2 ∧ Aside0 (impl_FairOk.l0 kq l0_4 (l0_4.length : Int) x26_2 a0_0 a0_1 a0_2 a0_3 l0_4 = some r) ∧ Aside0 (kq ≤ kj1) ∧ Aside0 (w'.heap[gb215]? = some (.cells #[.int .i64 a0_0, .int .i64 a0_1, .int .i64 a0_2, .int .i64 a0_3, (.slice A0_4 l0_4.length c0_4)] 32 (0, 0))) ∧ Aside0 (Below w.heap.size w w'))
    case atStart => exact ⟨(0), (by first | rfl | (simp; done) | (simp [*]; done)), H', ⟨Nat.le_refl _⟩, ⟨bk_ BK215⟩, ⟨by repeat (first | (with_reducible first | exact HB.out | apply below_alloc | apply pw_below_drewN | apply below_drew1 | refine below_set ?_ GE215.out) | exact HB.out)⟩⟩
    case round =>
     clear H'
     try clear c1
     try clear p2
     try clear c5
     try clear c7
     try clear c7b0
     try clear c18
     try clear c19
     try clear hcz10_0
     try clear hcz10_1
     try clear hcz10_2
     try clear hcz10_3
     try clear hcz10_4
     try clear hcz12_0
     try clear hcz12_1
     try clear hcz12_2
     try clear hcz12_3
     try clear hcz12_4
     try clear hcz14_0
     try clear hcz14_1
     try clear hcz14_2
     try clear hcz14_3
     try clear hcz14_4
     try clear hcz16_0
     try clear hcz16_1
     try clear hcz16_2
     try clear hcz16_3
     try clear hcz16_4
     try clear hcz17_0
     try clear hcz17_1
     try clear hcz17_2
     try clear hcz17_3
     try clear hcz17_4
     try clear hcz20_0
     try clear hcz20_1
     try clear hcz20_2
     try clear hcz20_3
     try clear hcz20_4
     try clear hcz8_0
     try clear hcz8_1
     try clear hcz8_2
     try clear hcz8_3
     try clear hcz8_4
     try clear hfz10_0
     try clear hfz10_1
     try clear hfz10_2
     try clear hfz10_3
     try clear hfz10_4
     try clear hfz12_0
     try clear hfz12_1
     try clear hfz12_2
     try clear hfz12_3
     try clear hfz12_4
     try clear hfz14_0
     try clear hfz14_1
     try clear hfz14_2
     try clear hfz14_3
     try clear hfz14_4
     try clear hfz16_0
     try clear hfz16_1
     try clear hfz16_2
     try clear hfz16_3
     try clear hfz16_4
     try clear hfz17_0
     try clear hfz17_1
     try clear hfz17_2
     try clear hfz17_3
     try clear hfz17_4
     try clear hfz20_0
     try clear hfz20_1
     try clear hfz20_2
     try clear hfz20_3
     try clear hfz20_4
     try clear hfz8_0
     try clear hfz8_1
     try clear hfz8_2
     try clear hfz8_3
     try clear hfz8_4
     try clear p2
     obtain ⟨x26_2, rfl, HA, HK2, BK215, HB⟩ := hrel
     cases gk with
     | zero => exact absurd HA.out (by simp [impl_FairOk.l0])
     | succ k2 =>
      have H := HA.out
      clear HA
      simp only [impl_FairOk.l0] at H
      by_cases c21 : x26_2 < (l0_4.length : Int)
      ·rw [if_pos c21] at H
       have c21b0 : decide (x26_2 < (l0_4.length : Int)) = true := decide_eq_true c21
       clear c21
       by_cases c22 : 0 ≤ x26_2
       ·rw [if_pos c22] at H
        have c22b0 : decide (0 ≤ x26_2) = true := decide_eq_true c22
        clear c22
        by_cases c23 : x26_2 < (l0_4.length : Int)
        ·rw [if_pos c23] at H
         have c23b0 : decide (x26_2 < (l0_4.length : Int)) = true := decide_eq_true c23
         clear c23
         replace H := Option.bind_eq_some_iff.mp H
         obtain ⟨t220, A240, H⟩ := H
         replace H : (if t220 = true then (if x26_2 > 0 then (if 0 ≤ (wrap64 (x26_2 - 1)) then (if (wrap64 (x26_2 - 1)) < (l0_4.length : Int) then (if ((rd_T38 l0_4 (wrap64 (x26_2 - 1))).f0) ≥ ((rd_T38 l0_4 x26_2).f0) then (some false) else (impl_FairOk.l0 k2 l0_4 (l0_4.length : Int) (wrap64 (x26_2 + 1)) a0_0 a0_1 a0_2 a0_3 l0_4)) else (none)) else (none)) else (impl_FairOk.l0 k2 l0_4 (l0_4.length : Int) (wrap64 (x26_2 + 1)) a0_0 a0_1 a0_2 a0_3 l0_4)) else (some false)) = some r := H
         have A24 := Aside0.mk A240
         clear A240
         by_cases c25 : t220 = true
         ·subst c25
          have H1 : (if x26_2 > 0 then (if 0 ≤ (wrap64 (x26_2 - 1)) then (if (wrap64 (x26_2 - 1)) < (l0_4.length : Int) then (if ((rd_T38 l0_4 (wrap64 (x26_2 - 1))).f0) ≥ ((rd_T38 l0_4 x26_2).f0) then (some false) else (impl_FairOk.l0 k2 l0_4 (l0_4.length : Int) (wrap64 (x26_2 + 1)) a0_0 a0_1 a0_2 a0_3 l0_4)) else (none)) else (none)) else (impl_FairOk.l0 k2 l0_4 (l0_4.length : Int) (wrap64 (x26_2 + 1)) a0_0 a0_1 a0_2 a0_3 l0_4)) = some r := by rw [if_pos rfl] at H; exact H
          clear H
          have H := H1
          clear H1
          by_cases c26 : x26_2 > 0
          ·rw [if_pos c26] at H
           have c26b0 : decide (0 < x26_2) = true := decide_eq_true c26
           clear c26
           obtain ⟨ji27, hji27⟩ : ∃ j_ : Int, (wrap64 (x26_2 - 1)) = j_ := ⟨_, rfl⟩
           replace H : (if 0 ≤ (ji27) then (if (ji27) < (l0_4.length : Int) then (if ((rd_T38 l0_4 (ji27)).f0) ≥ ((rd_T38 l0_4 x26_2).f0) then (some false) else (impl_FairOk.l0 k2 l0_4 (l0_4.length : Int) (wrap64 (x26_2 + 1)) a0_0 a0_1 a0_2 a0_3 l0_4)) else (none)) else (none)) = some r := by first | (rw [hji27] at H; exact H) | (simp only [hji27] at H ⊢; exact H)
           (try rw [hji27] at A24)
           have hji27w : (IntKind.i64.wrap (x26_2 - 1)) = ji27 := (i64_w _).trans hji27
           by_cases c28 : 0 ≤ (ji27)
           ·rw [if_pos c28] at H
            have c28b0 : decide (0 ≤ (ji27)) = true := decide_eq_true c28
            clear c28
            by_cases c29 : (ji27) < (l0_4.length : Int)
            ·rw [if_pos c29] at H
             have c29b0 : decide ((ji27) < (l0_4.length : Int)) = true := decide_eq_true c29
             clear c29
             by_cases c30 : ((rd_T38 l0_4 (ji27)).f0) ≥ ((rd_T38 l0_4 x26_2).f0)
             ·rw [if_pos c30] at H
              have c30b0 : decide (((rd_T38 l0_4 x26_2).f0) ≤ ((rd_T38 l0_4 (ji27)).f0)) = true := decide_eq_true c30
              clear c30
              obtain rfl := Option.some.inj H
              have p218 : 0 ≤ (x26_2 : Int) := of_decide_eq_true (by first | (with_reducible assumption) | assumption)
              have q218 : x26_2 < (l0_4.length : Int) := of_decide_eq_true (by first | (with_reducible assumption) | assumption)
              obtain ⟨ad218, e218, hx218_0, hx218_1, hx218_2, hx218_3, hx218_4, hx218_5⟩ := at_T38 HR0_4.out x26_2 p218 q218
              cases e218
              replace hx218_0 := (HB.out.cell (World.block_lt_of_cell? w _ hx218_0)).trans hx218_0
              replace hx218_1 := (HB.out.cell (World.block_lt_of_cell? w _ hx218_1)).trans hx218_1
              replace hx218_2 := (HB.out.cell (World.block_lt_of_cell? w _ hx218_2)).trans hx218_2
              replace hx218_3 := (HB.out.cell (World.block_lt_of_cell? w _ hx218_3)).trans hx218_3
              replace hx218_4 := (HB.out.cell (World.block_lt_of_cell? w _ hx218_4)).trans hx218_4
              replace hx218_5 := (HB.out.cell (World.block_lt_of_cell? w _ hx218_5)).trans hx218_5
              replace p218 := eq_true p218
              replace q218 := eq_true q218
              try go_wp2_with (first | ((with_reducible refine gate_dst (N := 4) rfl ?_); (try (refine gate_guard (by rfl) ?_; dsimp only)); refine box_event ?hg (N := 4) ?hd (cs := #[.int .i64 0, .int .i64 0, .bool false, .int .i64 0, .int .i64 0, .int .i64 0]) (t := 38) ?hr ?_; (case hd => rfl); (case hg => rfl); (case hr => first | (go_simp; done) | (go_simp; rfl)); intro gb219 hg w31 hbox hb; have n0_ := Aside0.mk (blk_below (g := gb215) (o := .cells #[.int .i64 a0_0, .int .i64 a0_1, .int .i64 a0_2, .int .i64 a0_3, .slice (some ad218) l0_4.length c0_4] 32 (0, 0)) (bk_ BK215) hb); have n1_ := Aside0.mk (below_step (by repeat (first | (with_reducible first | exact HB.out | apply below_alloc | apply pw_below_drewN | apply below_drew1 | refine below_set ?_ GE215.out) | exact HB.out)) hb); have n2_ := Aside0.mk (hbox); have n3_ := Aside0.mk ((by rw [hg]; exact (below_size (by repeat (first | (with_reducible first | exact HB.out | apply below_alloc | apply pw_below_drewN | apply below_drew1 | refine below_set ?_ GE215.out) | exact HB.out))) : w.heap.size ≤ gb219)); have n4_ := Aside0.mk ((by rw [hg]; exact (below_size (by repeat (first | (with_reducible first | exact HB.out | apply below_alloc | apply pw_below_drewN | apply below_drew1 | refine below_set ?_ GE215.out) | exact HB.out))) : w.heap.size ≤ gb219)); have n5_ := Aside0.mk ((by rw [hg]; exact Nat.ne_of_lt (blk_lt (g := gb215) (o := .cells #[.int .i64 a0_0, .int .i64 a0_1, .int .i64 a0_2, .int .i64 a0_3, .slice (some ad218) l0_4.length c0_4] 32 (0, 0)) (bk_ BK215)) : gb215 ≠ gb219)); have n6_ := Aside0.mk ((by rw [hg]; exact Nat.ne_of_gt (blk_lt (g := gb215) (o := .cells #[.int .i64 a0_0, .int .i64 a0_1, .int .i64 a0_2, .int .i64 a0_3, .slice (some ad218) l0_4.length c0_4] 32 (0, 0)) (bk_ BK215)) : gb219 ≠ gb215)); clear BK215; clear HB; have BK215 := n0_; have HB := n1_; have BK219 := n2_; have GW219 := n3_; have GE219 := n4_; have NB215_219 := n5_; have NB219_215 := n6_; clear n0_ n1_ n2_ n3_ n4_ n5_ n6_; clear hb hbox hg; have hnb32 := NB219_215.out; have hnc32 := NB215_219.out; have hcz33_0 : w31.cell? ⟨gb219, 0, none⟩ = some (.int .i64 0) := (blk_cell BK219.out 0).trans rfl; have hcz33_1 : w31.cell? ⟨gb219, 1, none⟩ = some (.int .i64 0) := (blk_cell BK219.out 1).trans rfl; have hcz33_2 : w31.cell? ⟨gb219, 2, none⟩ = some (.bool false) := (blk_cell BK219.out 2).trans rfl; have hcz33_3 : w31.cell? ⟨gb219, 3, none⟩ = some (.int .i64 0) := (blk_cell BK219.out 3).trans rfl; have hcz33_4 : w31.cell? ⟨gb219, 4, none⟩ = some (.int .i64 0) := (blk_cell BK219.out 4).trans rfl; have hcz33_5 : w31.cell? ⟨gb219, 5, none⟩ = some (.int .i64 0) := (blk_cell BK219.out 5).trans rfl; have hfz33_0 := blk_frozen BK219.out 0; have hfz33_1 := blk_frozen BK219.out 1; have hfz33_2 := blk_frozen BK219.out 2; have hfz33_3 := blk_frozen BK219.out 3; have hfz33_4 := blk_frozen BK219.out 4; have hfz33_5 := blk_frozen BK219.out 5))
              have n0_ : Aside0 (((((((w31.setCell ⟨gb219, 0, none⟩ (.int .i64 ((rd_T38 l0_4 x26_2).f0))).setCell ⟨gb219, 1, none⟩ (.int .i64 ((rd_T38 l0_4 x26_2).f1))).setCell ⟨gb219, 2, none⟩ (.bool ((rd_T38 l0_4 x26_2).f2))).setCell ⟨gb219, 3, none⟩ (.int .i64 ((rd_T38 l0_4 x26_2).f3.f0))).setCell ⟨gb219, 4, none⟩ (.int .i64 ((rd_T38 l0_4 x26_2).f3.f1))).setCell ⟨gb219, 5, none⟩ (.int .i64 ((rd_T38 l0_4 x26_2).f3.f2))).heap[gb215]? = some (.cells #[.int .i64 a0_0, .int .i64 a0_1, .int .i64 a0_2, .int .i64 a0_3, .slice (some ad218) l0_4.length c0_4] 32 (0, 0))) := ⟨by (with_reducible repeat (first | refine blk_drewN ?_ _ | refine blk_drew ?_ | refine blk_alloc ?_ _)); refine blk_far ?_ NB215_219.out _; (with_reducible repeat (first | refine blk_drewN ?_ _ | refine blk_drew ?_ | refine blk_alloc ?_ _)); refine blk_far ?_ NB215_219.out _; (with_reducible repeat (first | refine blk_drewN ?_ _ | refine blk_drew ?_ | refine blk_alloc ?_ _)); refine blk_far ?_ NB215_219.out _; (with_reducible repeat (first | refine blk_drewN ?_ _ | refine blk_drew ?_ | refine blk_alloc ?_ _)); refine blk_far ?_ NB215_219.out _; (with_reducible repeat (first | refine blk_drewN ?_ _ | refine blk_drew ?_ | refine blk_alloc ?_ _)); refine blk_far ?_ NB215_219.out _; (with_reducible repeat (first | refine blk_drewN ?_ _ | refine blk_drew ?_ | refine blk_alloc ?_ _)); refine blk_far ?_ NB215_219.out _; exact bk_ BK215⟩
              have n1_ : Aside0 (((((((w31.setCell ⟨gb219, 0, none⟩ (.int .i64 ((rd_T38 l0_4 x26_2).f0))).setCell ⟨gb219, 1, none⟩ (.int .i64 ((rd_T38 l0_4 x26_2).f1))).setCell ⟨gb219, 2, none⟩ (.bool ((rd_T38 l0_4 x26_2).f2))).setCell ⟨gb219, 3, none⟩ (.int .i64 ((rd_T38 l0_4 x26_2).f3.f0))).setCell ⟨gb219, 4, none⟩ (.int .i64 ((rd_T38 l0_4 x26_2).f3.f1))).setCell ⟨gb219, 5, none⟩ (.int .i64 ((rd_T38 l0_4 x26_2).f3.f2))).heap[gb219]? = some (.cells #[.int .i64 ((rd_T38 l0_4 x26_2).f0), .int .i64 ((rd_T38 l0_4 x26_2).f1), .bool ((rd_T38 l0_4 x26_2).f2), .int .i64 ((rd_T38 l0_4 x26_2).f3.f0), .int .i64 ((rd_T38 l0_4 x26_2).f3.f1), .int .i64 ((rd_T38 l0_4 x26_2).f3.f2)] 38 (0, 0))) := ⟨by (with_reducible repeat (first | refine blk_drewN ?_ _ | refine blk_drew ?_ | refine blk_alloc ?_ _)); refine blk_put (cs := #[.int .i64 ((rd_T38 l0_4 x26_2).f0), .int .i64 ((rd_T38 l0_4 x26_2).f1), .bool ((rd_T38 l0_4 x26_2).f2), .int .i64 ((rd_T38 l0_4 x26_2).f3.f0), .int .i64 ((rd_T38 l0_4 x26_2).f3.f1), .int .i64 0]) ?_ 5 _ rfl; (with_reducible repeat (first | refine blk_drewN ?_ _ | refine blk_drew ?_ | refine blk_alloc ?_ _)); refine blk_put (cs := #[.int .i64 ((rd_T38 l0_4 x26_2).f0), .int .i64 ((rd_T38 l0_4 x26_2).f1), .bool ((rd_T38 l0_4 x26_2).f2), .int .i64 ((rd_T38 l0_4 x26_2).f3.f0), .int .i64 0, .int .i64 0]) ?_ 4 _ rfl; (with_reducible repeat (first | refine blk_drewN ?_ _ | refine blk_drew ?_ | refine blk_alloc ?_ _)); refine blk_put (cs := #[.int .i64 ((rd_T38 l0_4 x26_2).f0), .int .i64 ((rd_T38 l0_4 x26_2).f1), .bool ((rd_T38 l0_4 x26_2).f2), .int .i64 0, .int .i64 0, .int .i64 0]) ?_ 3 _ rfl; (with_reducible repeat (first | refine blk_drewN ?_ _ | refine blk_drew ?_ | refine blk_alloc ?_ _)); refine blk_put (cs := #[.int .i64 ((rd_T38 l0_4 x26_2).f0), .int .i64 ((rd_T38 l0_4 x26_2).f1), .bool false, .int .i64 0, .int .i64 0, .int .i64 0]) ?_ 2 _ rfl; (with_reducible repeat (first | refine blk_drewN ?_ _ | refine blk_drew ?_ | refine blk_alloc ?_ _)); refine blk_put (cs := #[.int .i64 ((rd_T38 l0_4 x26_2).f0), .int .i64 0, .bool false, .int .i64 0, .int .i64 0, .int .i64 0]) ?_ 1 _ rfl; (with_reducible repeat (first | refine blk_drewN ?_ _ | refine blk_drew ?_ | refine blk_alloc ?_ _)); refine blk_put (cs := #[.int .i64 0, .int .i64 0, .bool false, .int .i64 0, .int .i64 0, .int .i64 0]) ?_ 0 _ rfl; exact bk_ BK219⟩
              have n2_ : Aside0 (Below w.heap.size w ((((((w31.setCell ⟨gb219, 0, none⟩ (.int .i64 ((rd_T38 l0_4 x26_2).f0))).setCell ⟨gb219, 1, none⟩ (.int .i64 ((rd_T38 l0_4 x26_2).f1))).setCell ⟨gb219, 2, none⟩ (.bool ((rd_T38 l0_4 x26_2).f2))).setCell ⟨gb219, 3, none⟩ (.int .i64 ((rd_T38 l0_4 x26_2).f3.f0))).setCell ⟨gb219, 4, none⟩ (.int .i64 ((rd_T38 l0_4 x26_2).f3.f1))).setCell ⟨gb219, 5, none⟩ (.int .i64 ((rd_T38 l0_4 x26_2).f3.f2)))) := ⟨by repeat (first | (with_reducible first | exact HB.out | apply below_alloc | apply pw_below_drewN | apply below_drew1 | refine below_set ?_ GE215.out | refine below_set ?_ GE219.out) | exact HB.out)⟩
              (try clear BK215)
              (try clear BK219)
              (try clear HB)
              generalize ((((((w31.setCell ⟨gb219, 0, none⟩ (.int .i64 ((rd_T38 l0_4 x26_2).f0))).setCell ⟨gb219, 1, none⟩ (.int .i64 ((rd_T38 l0_4 x26_2).f1))).setCell ⟨gb219, 2, none⟩ (.bool ((rd_T38 l0_4 x26_2).f2))).setCell ⟨gb219, 3, none⟩ (.int .i64 ((rd_T38 l0_4 x26_2).f3.f0))).setCell ⟨gb219, 4, none⟩ (.int .i64 ((rd_T38 l0_4 x26_2).f3.f1))).setCell ⟨gb219, 5, none⟩ (.int .i64 ((rd_T38 l0_4 x26_2).f3.f2))) = w34 at n0_ n1_ n2_ ⊢
              have BK215 := n0_
              have BK219 := n1_
              have HB := n2_
              clear n0_ n1_ n2_
              have n0_ := Aside0.mk (blk_drew BK215.out)
              have n1_ := Aside0.mk (blk_drew BK219.out)
              have n2_ := Aside0.mk (below_drew1 HB.out)
              clear BK215
              clear BK219
              clear HB
              have BK215 := n0_
              have BK219 := n1_
              have HB := n2_
              clear n0_ n1_ n2_
              have p221 : 0 ≤ ((ji27) : Int) := of_decide_eq_true (by first | (with_reducible assumption) | assumption)
              have q221 : (ji27) < (l0_4.length : Int) := of_decide_eq_true (by first | (with_reducible assumption) | assumption)
              obtain ⟨ad221, e221, hx221_0, hx221_1, hx221_2, hx221_3, hx221_4, hx221_5⟩ := at_T38 HR0_4.out (ji27) p221 q221
              have hw221_5 := hx221_5
              have hw221_4 := hx221_4
              have hw221_3 := hx221_3
              have hw221_2 := hx221_2
              have hw221_1 := hx221_1
              have hw221_0 := hx221_0
              obtain rfl : ad218 = ad221 := (by injection e221)
              replace hx221_0 := (HB.out.cell (World.block_lt_of_cell? w _ hx221_0)).trans hx221_0
              replace hx221_1 := (HB.out.cell (World.block_lt_of_cell? w _ hx221_1)).trans hx221_1
              replace hx221_2 := (HB.out.cell (World.block_lt_of_cell? w _ hx221_2)).trans hx221_2
              replace hx221_3 := (HB.out.cell (World.block_lt_of_cell? w _ hx221_3)).trans hx221_3
              replace hx221_4 := (HB.out.cell (World.block_lt_of_cell? w _ hx221_4)).trans hx221_4
              replace hx221_5 := (HB.out.cell (World.block_lt_of_cell? w _ hx221_5)).trans hx221_5
              replace p221 := eq_true p221
              replace q221 := eq_true q221
              refine start_ (n := 20) (S := fun w' => w'.cell? ⟨gb215, 0, none⟩ = some (.int .i64 a0_0) ∧ w'.cell? ⟨gb215, 1, none⟩ = some (.int .i64 a0_1) ∧ w'.cell? ⟨gb215, 2, none⟩ = some (.int .i64 a0_2) ∧ w'.cell? ⟨gb215, 3, none⟩ = some (.int .i64 a0_3) ∧ w'.cell? ⟨gb215, 4, none⟩ = some (.slice (some ad218) l0_4.length c0_4) ∧ w'.cell? ⟨gb219, 0, none⟩ = some (.int .i64 ((rd_T38 l0_4 x26_2).f0)) ∧ w'.cell? ⟨gb219, 1, none⟩ = some (.int .i64 ((rd_T38 l0_4 x26_2).f1)) ∧ w'.cell? ⟨gb219, 2, none⟩ = some (.bool ((rd_T38 l0_4 x26_2).f2)) ∧ w'.cell? ⟨gb219, 3, none⟩ = some (.int .i64 ((rd_T38 l0_4 x26_2).f3.f0)) ∧ w'.cell? ⟨gb219, 4, none⟩ = some (.int .i64 ((rd_T38 l0_4 x26_2).f3.f1)) ∧ w'.cell? ⟨gb219, 5, none⟩ = some (.int .i64 ((rd_T38 l0_4 x26_2).f3.f2)) ∧ w'.cell? (ad218.add (((ji27)).toNat * 6)) = some (.int .i64 ((rd_T38 l0_4 (ji27)).f0)) ∧ w'.cell? ⟨(ad218.add (((ji27)).toNat * 6)).block, (ad218.add (((ji27)).toNat * 6)).off + 1, none⟩ = some (.int .i64 ((rd_T38 l0_4 (ji27)).f1)) ∧ w'.cell? ⟨(ad218.add (((ji27)).toNat * 6)).block, (ad218.add (((ji27)).toNat * 6)).off + 2, none⟩ = some (.bool ((rd_T38 l0_4 (ji27)).f2)) ∧ w'.cell? ⟨(ad218.add (((ji27)).toNat * 6)).block, (ad218.add (((ji27)).toNat * 6)).off + 3, none⟩ = some (.int .i64 ((rd_T38 l0_4 (ji27)).f3.f0)) ∧ w'.cell? ⟨(ad218.add (((ji27)).toNat * 6)).block, (ad218.add (((ji27)).toNat * 6)).off + 4, none⟩ = some (.int .i64 ((rd_T38 l0_4 (ji27)).f3.f1)) ∧ w'.cell? ⟨(ad218.add (((ji27)).toNat * 6)).block, (ad218.add (((ji27)).toNat * 6)).off + 5, none⟩ = some (.int .i64 ((rd_T38 l0_4 (ji27)).f3.f2))) (ds := []) (bs 20 0) (by kernel_rfl) rfl rfl ⟨(blk_cell BK215.out 0).trans rfl, (blk_cell BK215.out 1).trans rfl, (blk_cell BK215.out 2).trans rfl, (blk_cell BK215.out 3).trans rfl, (blk_cell BK215.out 4).trans rfl, (blk_cell BK219.out 0).trans rfl, (blk_cell BK219.out 1).trans rfl, (blk_cell BK219.out 2).trans rfl, (blk_cell BK219.out 3).trans rfl, (blk_cell BK219.out 4).trans rfl, (blk_cell BK219.out 5).trans rfl, ((HB.out.cell (World.block_lt_of_cell? w _ hw221_0)).trans hw221_0), ((HB.out.cell (World.block_lt_of_cell? w _ hw221_1)).trans hw221_1), ((HB.out.cell (World.block_lt_of_cell? w _ hw221_2)).trans hw221_2), ((HB.out.cell (World.block_lt_of_cell? w _ hw221_3)).trans hw221_3), ((HB.out.cell (World.block_lt_of_cell? w _ hw221_4)).trans hw221_4), ((HB.out.cell (World.block_lt_of_cell? w _ hw221_5)).trans hw221_5)⟩ (fun hHeld => ?_); refine with_tabW impl_FairOk.tab6 impl_FairOk.bits6 (fun HT_ HW_ => ?_)
              generalize w34.drew = w35 at BK215 BK219 HB hx221_0 hx221_1 hx221_2 hx221_3 hx221_4 hx221_5 hHeld ⊢
              refine take_ (i := 0) (N := some 31) (v := ?_) (a' := ?_) (bs 20 1) rfl rfl (take_ofW HT_.out HW_.out (by kernel_rfl)) (fun _ _ _ h => h) (Or.inl ⟨by rfl, ?_⟩) hHeld ?_ ?_
              rotate_left
              ·rintro w' ⟨s0, s1, s2, s3, s4, s5, s6, s7, s8, s9, s10, s11, s12, s13, s14, s15, s16⟩
               go_simp
               with_reducible rfl
              rotate_left
              ·simp only [Act.put, List.setIfInBounds_toArray, List.set_cons_zero, List.set_cons_succ, i64_w, i32_w]
               rfl
              refine take_ (i := 1) (N := some 32) (v := ?_) (a' := ?_) (bs 20 2) rfl rfl (take_ofW HT_.out HW_.out (by kernel_rfl)) (fun _ _ _ h => h) (Or.inl ⟨by rfl, ?_⟩) hHeld ?_ ?_
              rotate_left
              ·rintro w' ⟨s0, s1, s2, s3, s4, s5, s6, s7, s8, s9, s10, s11, s12, s13, s14, s15, s16⟩
               go_simp
               with_reducible rfl
              rotate_left
              ·simp only [Act.put, List.setIfInBounds_toArray, List.set_cons_zero, List.set_cons_succ, i64_w, i32_w]
               rfl
              refine one_ (i := 2) (N := some 33) (bs 20 3) rfl rfl (one_of HT_.out (by kernel_rfl)) (by decide) (fun K hK => ?_)
              refine goes_ Try.func53 (by kernel_rfl) rfl #[.agg #[.int .i64 a0_0, .int .i64 a0_1, .int .i64 a0_2, .int .i64 a0_3, .slice (some ad218) l0_4.length c0_4], .agg #[.int .i64 ((rd_T38 l0_4 x26_2).f0), .int .i64 ((rd_T38 l0_4 x26_2).f1), .bool ((rd_T38 l0_4 x26_2).f2), .int .i64 ((rd_T38 l0_4 x26_2).f3.f0), .int .i64 ((rd_T38 l0_4 x26_2).f3.f1), .int .i64 ((rd_T38 l0_4 x26_2).f3.f2)]] (by rfl) rfl rfl mt_ ?_
              with_reducible refine (impl_Fair_kidOk.calls a0_0 a0_1 a0_2 a0_3 _ _ l0_4 ((rd_T38 l0_4 x26_2).f0) ((rd_T38 l0_4 x26_2).f1) ((rd_T38 l0_4 x26_2).f2) ((rd_T38 l0_4 x26_2).f3.f0) ((rd_T38 l0_4 x26_2).f3.f1) ((rd_T38 l0_4 x26_2).f3.f2) true _ ?side1 ?side2 A24.out).mono ?_
              (case side1 => repeat (first | exact (Kd.C_below HR0_4.out HB.out) | (with_reducible refine Kd.C_alloc ?_ _) | (with_reducible refine Kd.C_drewN ?_ _) | (with_reducible refine Kd.C_drew ?_)))
              (case side2 => exact HC0_4.out)
              rintro e w36 ⟨rfl, hb⟩
              refine ⟨_, rfl, ?_⟩
              have n0_ := Aside0.mk (blk_below (g := gb215) (o := .cells #[.int .i64 a0_0, .int .i64 a0_1, .int .i64 a0_2, .int .i64 a0_3, .slice (some ad218) l0_4.length c0_4] 32 (0, 0)) (bk_ BK215) hb)
              have n1_ := Aside0.mk (blk_below (g := gb219) (o := .cells #[.int .i64 ((rd_T38 l0_4 x26_2).f0), .int .i64 ((rd_T38 l0_4 x26_2).f1), .bool ((rd_T38 l0_4 x26_2).f2), .int .i64 ((rd_T38 l0_4 x26_2).f3.f0), .int .i64 ((rd_T38 l0_4 x26_2).f3.f1), .int .i64 ((rd_T38 l0_4 x26_2).f3.f2)] 38 (0, 0)) (bk_ BK219) hb)
              have n2_ := Aside0.mk (below_step (by repeat (first | (with_reducible first | exact HB.out | apply below_alloc | apply pw_below_drewN | apply below_drew1 | refine below_set ?_ GE215.out | refine below_set ?_ GE219.out) | exact HB.out)) hb)
              clear BK215
              clear BK219
              clear HB
              have BK215 := n0_
              have BK219 := n1_
              have HB := n2_
              clear n0_ n1_ n2_
              (try clear hb)
              (try clear hb2)
              (try clear hk)
              (try clear hi)
              refine hK.out _ _ ⟨(blk_cell BK215.out 0).trans rfl, (blk_cell BK215.out 1).trans rfl, (blk_cell BK215.out 2).trans rfl, (blk_cell BK215.out 3).trans rfl, (blk_cell BK215.out 4).trans rfl, (blk_cell BK219.out 0).trans rfl, (blk_cell BK219.out 1).trans rfl, (blk_cell BK219.out 2).trans rfl, (blk_cell BK219.out 3).trans rfl, (blk_cell BK219.out 4).trans rfl, (blk_cell BK219.out 5).trans rfl, ((HB.out.cell (World.block_lt_of_cell? w _ hw221_0)).trans hw221_0), ((HB.out.cell (World.block_lt_of_cell? w _ hw221_1)).trans hw221_1), ((HB.out.cell (World.block_lt_of_cell? w _ hw221_2)).trans hw221_2), ((HB.out.cell (World.block_lt_of_cell? w _ hw221_3)).trans hw221_3), ((HB.out.cell (World.block_lt_of_cell? w _ hw221_4)).trans hw221_4), ((HB.out.cell (World.block_lt_of_cell? w _ hw221_5)).trans hw221_5)⟩ (fun hHeld => ?_)
              clear hK K
              refine norm_ (a' := ?_) ?_ ?_
              rotate_left
              ·show Act.put _ (some 33) _ = _
               simp only [Act.put, List.setIfInBounds_toArray, List.set_cons_zero, List.set_cons_succ, i64_w, i32_w]
               rfl
              refine pure_s (i := 3) (N := some 34) (bs 20 4) (any_of HT_.out (by kernel_rfl)) (h := ?_)
              refine pure_s (i := 4) (N := some 35) (bs 20 5) (any_of HT_.out (by kernel_rfl)) (h := ?_)
              refine pure_s (i := 5) (N := some 36) (bs 20 6) (any_of HT_.out (by kernel_rfl)) (h := ?_)
              refine pure_s (i := 6) (N := some 37) (bs 20 7) (any_of HT_.out (by kernel_rfl)) (h := ?_)
              refine pure_s (i := 7) (N := some 38) (bs 20 8) (any_of HT_.out (by kernel_rfl)) (h := ?_)
              refine pure_s (i := 8) (N := some 39) (bs 20 9) (any_of HT_.out (by kernel_rfl)) (h := ?_)
              refine pure_s (i := 10) (N := some 41) #[oT,oT,oT,oT,oT,oT,oT,oT,oT,oF,oT,oF,oF,oF,oF,oF,oF,oF,oF,oF] (any_of HT_.out (by kernel_rfl)) (h := ?_)
              refine pure_s (i := 11) (N := some 42) #[oT,oT,oT,oT,oT,oT,oT,oT,oT,oF,oT,oT,oF,oF,oF,oF,oF,oF,oF,oF] (any_of HT_.out (by kernel_rfl)) (h := ?_)
              refine pure_s (i := 15) (N := some 46) #[oT,oT,oT,oT,oT,oT,oT,oT,oT,oF,oT,oT,oF,oF,oF,oT,oF,oF,oF,oF] (any_of HT_.out (by kernel_rfl)) (h := ?_)
              refine take_ (i := 9) (N := some 40) (v := ?_) (a' := ?_) #[oT,oT,oT,oT,oT,oT,oT,oT,oT,oT,oT,oT,oF,oF,oF,oT,oF,oF,oF,oF] rfl rfl (take_ofW HT_.out HW_.out (by kernel_rfl)) (fun _ _ _ h => h) (Or.inl ⟨by rfl, ?_⟩) hHeld ?_ ?_
              rotate_left
              ·rintro w' ⟨s0, s1, s2, s3, s4, s5, s6, s7, s8, s9, s10, s11, s12, s13, s14, s15, s16⟩
               go_simp
               with_reducible rfl
              rotate_left
              ·simp only [Act.put, List.setIfInBounds_toArray, List.set_cons_zero, List.set_cons_succ, i64_w, i32_w]
               rfl
              refine pure_s (i := 12) (N := some 43) #[oT,oT,oT,oT,oT,oT,oT,oT,oT,oT,oT,oT,oT,oF,oF,oT,oF,oF,oF,oF] (any_of HT_.out (by kernel_rfl)) (h := ?_)
              refine pure_s (i := 13) (N := some 44) #[oT,oT,oT,oT,oT,oT,oT,oT,oT,oT,oT,oT,oT,oT,oF,oT,oF,oF,oF,oF] (any_of HT_.out (by kernel_rfl)) (h := ?_)
              refine take_ (i := 14) (N := some 45) (v := ?_) (a' := ?_) (bs 20 16) rfl rfl (take_ofW HT_.out HW_.out (by kernel_rfl)) (fun _ _ _ h => h) (Or.inl ⟨by rfl, ?_⟩) hHeld ?_ ?_
              rotate_left
              ·rintro w' ⟨s0, s1, s2, s3, s4, s5, s6, s7, s8, s9, s10, s11, s12, s13, s14, s15, s16⟩
               go_simp
               with_reducible rfl
              rotate_left
              ·simp only [Act.put, List.setIfInBounds_toArray, List.set_cons_zero, List.set_cons_succ, i64_w, i32_w]
               rfl
              refine take_ (i := 16) (N := some 47) (v := ?_) (a' := ?_) (bs 20 17) rfl rfl (take_ofW HT_.out HW_.out (by kernel_rfl)) (fun _ _ _ h => h) (Or.inl ⟨by rfl, ?_⟩) hHeld ?_ ?_
              rotate_left
              ·rintro w' ⟨s0, s1, s2, s3, s4, s5, s6, s7, s8, s9, s10, s11, s12, s13, s14, s15, s16⟩
               go_simp
               with_reducible rfl
              rotate_left
              ·simp only [Act.put, List.setIfInBounds_toArray, List.set_cons_zero, List.set_cons_succ, i64_w, i32_w]
               rfl
              refine pure_s (i := 17) (N := some 48) (bs 20 18) (any_of HT_.out (by kernel_rfl)) (h := ?_)
              refine pure_s (i := 18) (N := some 49) (bs 20 19) (any_of HT_.out (by kernel_rfl)) (h := ?_)
              refine pure_s (i := 19) (N := some 50) (bs 20 20) (any_of HT_.out (by kernel_rfl)) (h := ?_)
              refine done_ (done_of HT_.out (by kernel_rfl)) ?_
              try go_wp2
              go_ret
              exact ⟨by first | rfl | (simp [errW_none, errW_some] <;> rfl) | (simp only [← hji27]; first | rfl | (simp [errW_none, errW_some] <;> rfl)) | (simp [*, errW_none, errW_some] <;> rfl), by repeat (first | (with_reducible first | exact HB.out | apply below_alloc | apply pw_below_drewN | apply below_drew1 | refine below_set ?_ GE215.out | refine below_set ?_ GE219.out) | exact HB.out)⟩
             ·rw [if_neg c30] at H
              have c30b0 : decide (((rd_T38 l0_4 x26_2).f0) ≤ ((rd_T38 l0_4 (ji27)).f0)) = false := decide_eq_false c30
              clear c30
              have H' := Aside0.mk H
              clear H
              have p218 : 0 ≤ (x26_2 : Int) := of_decide_eq_true (by first | (with_reducible assumption) | assumption)
              have q218 : x26_2 < (l0_4.length : Int) := of_decide_eq_true (by first | (with_reducible assumption) | assumption)
              obtain ⟨ad218, e218, hx218_0, hx218_1, hx218_2, hx218_3, hx218_4, hx218_5⟩ := at_T38 HR0_4.out x26_2 p218 q218
              cases e218
              replace hx218_0 := (HB.out.cell (World.block_lt_of_cell? w _ hx218_0)).trans hx218_0
              replace hx218_1 := (HB.out.cell (World.block_lt_of_cell? w _ hx218_1)).trans hx218_1
              replace hx218_2 := (HB.out.cell (World.block_lt_of_cell? w _ hx218_2)).trans hx218_2
              replace hx218_3 := (HB.out.cell (World.block_lt_of_cell? w _ hx218_3)).trans hx218_3
              replace hx218_4 := (HB.out.cell (World.block_lt_of_cell? w _ hx218_4)).trans hx218_4
              replace hx218_5 := (HB.out.cell (World.block_lt_of_cell? w _ hx218_5)).trans hx218_5
              replace p218 := eq_true p218
              replace q218 := eq_true q218
              try go_wp2_with (first | ((with_reducible refine gate_dst (N := 4) rfl ?_); (try (refine gate_guard (by rfl) ?_; dsimp only)); refine box_event ?hg (N := 4) ?hd (cs := #[.int .i64 0, .int .i64 0, .bool false, .int .i64 0, .int .i64 0, .int .i64 0]) (t := 38) ?hr ?_; (case hd => rfl); (case hg => rfl); (case hr => first | (go_simp; done) | (go_simp; rfl)); intro gb219 hg w37 hbox hb; have n0_ := Aside0.mk (blk_below (g := gb215) (o := .cells #[.int .i64 a0_0, .int .i64 a0_1, .int .i64 a0_2, .int .i64 a0_3, .slice (some ad218) l0_4.length c0_4] 32 (0, 0)) (bk_ BK215) hb); have n1_ := Aside0.mk (below_step (by repeat (first | (with_reducible first | exact HB.out | apply below_alloc | apply pw_below_drewN | apply below_drew1 | refine below_set ?_ GE215.out) | exact HB.out)) hb); have n2_ := Aside0.mk (hbox); have n3_ := Aside0.mk ((by rw [hg]; exact (below_size (by repeat (first | (with_reducible first | exact HB.out | apply below_alloc | apply pw_below_drewN | apply below_drew1 | refine below_set ?_ GE215.out) | exact HB.out))) : w.heap.size ≤ gb219)); have n4_ := Aside0.mk ((by rw [hg]; exact (below_size (by repeat (first | (with_reducible first | exact HB.out | apply below_alloc | apply pw_below_drewN | apply below_drew1 | refine below_set ?_ GE215.out) | exact HB.out))) : w.heap.size ≤ gb219)); have n5_ := Aside0.mk ((by rw [hg]; exact Nat.ne_of_lt (blk_lt (g := gb215) (o := .cells #[.int .i64 a0_0, .int .i64 a0_1, .int .i64 a0_2, .int .i64 a0_3, .slice (some ad218) l0_4.length c0_4] 32 (0, 0)) (bk_ BK215)) : gb215 ≠ gb219)); have n6_ := Aside0.mk ((by rw [hg]; exact Nat.ne_of_gt (blk_lt (g := gb215) (o := .cells #[.int .i64 a0_0, .int .i64 a0_1, .int .i64 a0_2, .int .i64 a0_3, .slice (some ad218) l0_4.length c0_4] 32 (0, 0)) (bk_ BK215)) : gb219 ≠ gb215)); clear BK215; clear HB; have BK215 := n0_; have HB := n1_; have BK219 := n2_; have GW219 := n3_; have GE219 := n4_; have NB215_219 := n5_; have NB219_215 := n6_; clear n0_ n1_ n2_ n3_ n4_ n5_ n6_; clear hb hbox hg; have hnb38 := NB219_215.out; have hnc38 := NB215_219.out; have hcz39_0 : w37.cell? ⟨gb219, 0, none⟩ = some (.int .i64 0) := (blk_cell BK219.out 0).trans rfl; have hcz39_1 : w37.cell? ⟨gb219, 1, none⟩ = some (.int .i64 0) := (blk_cell BK219.out 1).trans rfl; have hcz39_2 : w37.cell? ⟨gb219, 2, none⟩ = some (.bool false) := (blk_cell BK219.out 2).trans rfl; have hcz39_3 : w37.cell? ⟨gb219, 3, none⟩ = some (.int .i64 0) := (blk_cell BK219.out 3).trans rfl; have hcz39_4 : w37.cell? ⟨gb219, 4, none⟩ = some (.int .i64 0) := (blk_cell BK219.out 4).trans rfl; have hcz39_5 : w37.cell? ⟨gb219, 5, none⟩ = some (.int .i64 0) := (blk_cell BK219.out 5).trans rfl; have hfz39_0 := blk_frozen BK219.out 0; have hfz39_1 := blk_frozen BK219.out 1; have hfz39_2 := blk_frozen BK219.out 2; have hfz39_3 := blk_frozen BK219.out 3; have hfz39_4 := blk_frozen BK219.out 4; have hfz39_5 := blk_frozen BK219.out 5))
              have n0_ : Aside0 (((((((w37.setCell ⟨gb219, 0, none⟩ (.int .i64 ((rd_T38 l0_4 x26_2).f0))).setCell ⟨gb219, 1, none⟩ (.int .i64 ((rd_T38 l0_4 x26_2).f1))).setCell ⟨gb219, 2, none⟩ (.bool ((rd_T38 l0_4 x26_2).f2))).setCell ⟨gb219, 3, none⟩ (.int .i64 ((rd_T38 l0_4 x26_2).f3.f0))).setCell ⟨gb219, 4, none⟩ (.int .i64 ((rd_T38 l0_4 x26_2).f3.f1))).setCell ⟨gb219, 5, none⟩ (.int .i64 ((rd_T38 l0_4 x26_2).f3.f2))).heap[gb215]? = some (.cells #[.int .i64 a0_0, .int .i64 a0_1, .int .i64 a0_2, .int .i64 a0_3, .slice (some ad218) l0_4.length c0_4] 32 (0, 0))) := ⟨by (with_reducible repeat (first | refine blk_drewN ?_ _ | refine blk_drew ?_ | refine blk_alloc ?_ _)); refine blk_far ?_ NB215_219.out _; (with_reducible repeat (first | refine blk_drewN ?_ _ | refine blk_drew ?_ | refine blk_alloc ?_ _)); refine blk_far ?_ NB215_219.out _; (with_reducible repeat (first | refine blk_drewN ?_ _ | refine blk_drew ?_ | refine blk_alloc ?_ _)); refine blk_far ?_ NB215_219.out _; (with_reducible repeat (first | refine blk_drewN ?_ _ | refine blk_drew ?_ | refine blk_alloc ?_ _)); refine blk_far ?_ NB215_219.out _; (with_reducible repeat (first | refine blk_drewN ?_ _ | refine blk_drew ?_ | refine blk_alloc ?_ _)); refine blk_far ?_ NB215_219.out _; (with_reducible repeat (first | refine blk_drewN ?_ _ | refine blk_drew ?_ | refine blk_alloc ?_ _)); refine blk_far ?_ NB215_219.out _; exact bk_ BK215⟩
              have n1_ : Aside0 (((((((w37.setCell ⟨gb219, 0, none⟩ (.int .i64 ((rd_T38 l0_4 x26_2).f0))).setCell ⟨gb219, 1, none⟩ (.int .i64 ((rd_T38 l0_4 x26_2).f1))).setCell ⟨gb219, 2, none⟩ (.bool ((rd_T38 l0_4 x26_2).f2))).setCell ⟨gb219, 3, none⟩ (.int .i64 ((rd_T38 l0_4 x26_2).f3.f0))).setCell ⟨gb219, 4, none⟩ (.int .i64 ((rd_T38 l0_4 x26_2).f3.f1))).setCell ⟨gb219, 5, none⟩ (.int .i64 ((rd_T38 l0_4 x26_2).f3.f2))).heap[gb219]? = some (.cells #[.int .i64 ((rd_T38 l0_4 x26_2).f0), .int .i64 ((rd_T38 l0_4 x26_2).f1), .bool ((rd_T38 l0_4 x26_2).f2), .int .i64 ((rd_T38 l0_4 x26_2).f3.f0), .int .i64 ((rd_T38 l0_4 x26_2).f3.f1), .int .i64 ((rd_T38 l0_4 x26_2).f3.f2)] 38 (0, 0))) := ⟨by (with_reducible repeat (first | refine blk_drewN ?_ _ | refine blk_drew ?_ | refine blk_alloc ?_ _)); refine blk_put (cs := #[.int .i64 ((rd_T38 l0_4 x26_2).f0), .int .i64 ((rd_T38 l0_4 x26_2).f1), .bool ((rd_T38 l0_4 x26_2).f2), .int .i64 ((rd_T38 l0_4 x26_2).f3.f0), .int .i64 ((rd_T38 l0_4 x26_2).f3.f1), .int .i64 0]) ?_ 5 _ rfl; (with_reducible repeat (first | refine blk_drewN ?_ _ | refine blk_drew ?_ | refine blk_alloc ?_ _)); refine blk_put (cs := #[.int .i64 ((rd_T38 l0_4 x26_2).f0), .int .i64 ((rd_T38 l0_4 x26_2).f1), .bool ((rd_T38 l0_4 x26_2).f2), .int .i64 ((rd_T38 l0_4 x26_2).f3.f0), .int .i64 0, .int .i64 0]) ?_ 4 _ rfl; (with_reducible repeat (first | refine blk_drewN ?_ _ | refine blk_drew ?_ | refine blk_alloc ?_ _)); refine blk_put (cs := #[.int .i64 ((rd_T38 l0_4 x26_2).f0), .int .i64 ((rd_T38 l0_4 x26_2).f1), .bool ((rd_T38 l0_4 x26_2).f2), .int .i64 0, .int .i64 0, .int .i64 0]) ?_ 3 _ rfl; (with_reducible repeat (first | refine blk_drewN ?_ _ | refine blk_drew ?_ | refine blk_alloc ?_ _)); refine blk_put (cs := #[.int .i64 ((rd_T38 l0_4 x26_2).f0), .int .i64 ((rd_T38 l0_4 x26_2).f1), .bool false, .int .i64 0, .int .i64 0, .int .i64 0]) ?_ 2 _ rfl; (with_reducible repeat (first | refine blk_drewN ?_ _ | refine blk_drew ?_ | refine blk_alloc ?_ _)); refine blk_put (cs := #[.int .i64 ((rd_T38 l0_4 x26_2).f0), .int .i64 0, .bool false, .int .i64 0, .int .i64 0, .int .i64 0]) ?_ 1 _ rfl; (with_reducible repeat (first | refine blk_drewN ?_ _ | refine blk_drew ?_ | refine blk_alloc ?_ _)); refine blk_put (cs := #[.int .i64 0, .int .i64 0, .bool false, .int .i64 0, .int .i64 0, .int .i64 0]) ?_ 0 _ rfl; exact bk_ BK219⟩
              have n2_ : Aside0 (Below w.heap.size w ((((((w37.setCell ⟨gb219, 0, none⟩ (.int .i64 ((rd_T38 l0_4 x26_2).f0))).setCell ⟨gb219, 1, none⟩ (.int .i64 ((rd_T38 l0_4 x26_2).f1))).setCell ⟨gb219, 2, none⟩ (.bool ((rd_T38 l0_4 x26_2).f2))).setCell ⟨gb219, 3, none⟩ (.int .i64 ((rd_T38 l0_4 x26_2).f3.f0))).setCell ⟨gb219, 4, none⟩ (.int .i64 ((rd_T38 l0_4 x26_2).f3.f1))).setCell ⟨gb219, 5, none⟩ (.int .i64 ((rd_T38 l0_4 x26_2).f3.f2)))) := ⟨by repeat (first | (with_reducible first | exact HB.out | apply below_alloc | apply pw_below_drewN | apply below_drew1 | refine below_set ?_ GE215.out | refine below_set ?_ GE219.out) | exact HB.out)⟩
              (try clear BK215)
              (try clear BK219)
              (try clear HB)
              generalize ((((((w37.setCell ⟨gb219, 0, none⟩ (.int .i64 ((rd_T38 l0_4 x26_2).f0))).setCell ⟨gb219, 1, none⟩ (.int .i64 ((rd_T38 l0_4 x26_2).f1))).setCell ⟨gb219, 2, none⟩ (.bool ((rd_T38 l0_4 x26_2).f2))).setCell ⟨gb219, 3, none⟩ (.int .i64 ((rd_T38 l0_4 x26_2).f3.f0))).setCell ⟨gb219, 4, none⟩ (.int .i64 ((rd_T38 l0_4 x26_2).f3.f1))).setCell ⟨gb219, 5, none⟩ (.int .i64 ((rd_T38 l0_4 x26_2).f3.f2))) = w40 at n0_ n1_ n2_ ⊢
              have BK215 := n0_
              have BK219 := n1_
              have HB := n2_
              clear n0_ n1_ n2_
              have n0_ := Aside0.mk (blk_drew BK215.out)
              have n1_ := Aside0.mk (blk_drew BK219.out)
              have n2_ := Aside0.mk (below_drew1 HB.out)
              clear BK215
              clear BK219
              clear HB
              have BK215 := n0_
              have BK219 := n1_
              have HB := n2_
              clear n0_ n1_ n2_
              have p221 : 0 ≤ ((ji27) : Int) := of_decide_eq_true (by first | (with_reducible assumption) | assumption)
              have q221 : (ji27) < (l0_4.length : Int) := of_decide_eq_true (by first | (with_reducible assumption) | assumption)
              obtain ⟨ad221, e221, hx221_0, hx221_1, hx221_2, hx221_3, hx221_4, hx221_5⟩ := at_T38 HR0_4.out (ji27) p221 q221
              have hw221_5 := hx221_5
              have hw221_4 := hx221_4
              have hw221_3 := hx221_3
              have hw221_2 := hx221_2
              have hw221_1 := hx221_1
              have hw221_0 := hx221_0
              obtain rfl : ad218 = ad221 := (by injection e221)
              replace hx221_0 := (HB.out.cell (World.block_lt_of_cell? w _ hx221_0)).trans hx221_0
              replace hx221_1 := (HB.out.cell (World.block_lt_of_cell? w _ hx221_1)).trans hx221_1
              replace hx221_2 := (HB.out.cell (World.block_lt_of_cell? w _ hx221_2)).trans hx221_2
              replace hx221_3 := (HB.out.cell (World.block_lt_of_cell? w _ hx221_3)).trans hx221_3
              replace hx221_4 := (HB.out.cell (World.block_lt_of_cell? w _ hx221_4)).trans hx221_4
              replace hx221_5 := (HB.out.cell (World.block_lt_of_cell? w _ hx221_5)).trans hx221_5
              replace p221 := eq_true p221
              replace q221 := eq_true q221
              refine start_ (n := 20) (S := fun w' => w'.cell? ⟨gb215, 0, none⟩ = some (.int .i64 a0_0) ∧ w'.cell? ⟨gb215, 1, none⟩ = some (.int .i64 a0_1) ∧ w'.cell? ⟨gb215, 2, none⟩ = some (.int .i64 a0_2) ∧ w'.cell? ⟨gb215, 3, none⟩ = some (.int .i64 a0_3) ∧ w'.cell? ⟨gb215, 4, none⟩ = some (.slice (some ad218) l0_4.length c0_4) ∧ w'.cell? ⟨gb219, 0, none⟩ = some (.int .i64 ((rd_T38 l0_4 x26_2).f0)) ∧ w'.cell? ⟨gb219, 1, none⟩ = some (.int .i64 ((rd_T38 l0_4 x26_2).f1)) ∧ w'.cell? ⟨gb219, 2, none⟩ = some (.bool ((rd_T38 l0_4 x26_2).f2)) ∧ w'.cell? ⟨gb219, 3, none⟩ = some (.int .i64 ((rd_T38 l0_4 x26_2).f3.f0)) ∧ w'.cell? ⟨gb219, 4, none⟩ = some (.int .i64 ((rd_T38 l0_4 x26_2).f3.f1)) ∧ w'.cell? ⟨gb219, 5, none⟩ = some (.int .i64 ((rd_T38 l0_4 x26_2).f3.f2)) ∧ w'.cell? (ad218.add (((ji27)).toNat * 6)) = some (.int .i64 ((rd_T38 l0_4 (ji27)).f0)) ∧ w'.cell? ⟨(ad218.add (((ji27)).toNat * 6)).block, (ad218.add (((ji27)).toNat * 6)).off + 1, none⟩ = some (.int .i64 ((rd_T38 l0_4 (ji27)).f1)) ∧ w'.cell? ⟨(ad218.add (((ji27)).toNat * 6)).block, (ad218.add (((ji27)).toNat * 6)).off + 2, none⟩ = some (.bool ((rd_T38 l0_4 (ji27)).f2)) ∧ w'.cell? ⟨(ad218.add (((ji27)).toNat * 6)).block, (ad218.add (((ji27)).toNat * 6)).off + 3, none⟩ = some (.int .i64 ((rd_T38 l0_4 (ji27)).f3.f0)) ∧ w'.cell? ⟨(ad218.add (((ji27)).toNat * 6)).block, (ad218.add (((ji27)).toNat * 6)).off + 4, none⟩ = some (.int .i64 ((rd_T38 l0_4 (ji27)).f3.f1)) ∧ w'.cell? ⟨(ad218.add (((ji27)).toNat * 6)).block, (ad218.add (((ji27)).toNat * 6)).off + 5, none⟩ = some (.int .i64 ((rd_T38 l0_4 (ji27)).f3.f2))) (ds := []) (bs 20 0) (by kernel_rfl) rfl rfl ⟨(blk_cell BK215.out 0).trans rfl, (blk_cell BK215.out 1).trans rfl, (blk_cell BK215.out 2).trans rfl, (blk_cell BK215.out 3).trans rfl, (blk_cell BK215.out 4).trans rfl, (blk_cell BK219.out 0).trans rfl, (blk_cell BK219.out 1).trans rfl, (blk_cell BK219.out 2).trans rfl, (blk_cell BK219.out 3).trans rfl, (blk_cell BK219.out 4).trans rfl, (blk_cell BK219.out 5).trans rfl, ((HB.out.cell (World.block_lt_of_cell? w _ hw221_0)).trans hw221_0), ((HB.out.cell (World.block_lt_of_cell? w _ hw221_1)).trans hw221_1), ((HB.out.cell (World.block_lt_of_cell? w _ hw221_2)).trans hw221_2), ((HB.out.cell (World.block_lt_of_cell? w _ hw221_3)).trans hw221_3), ((HB.out.cell (World.block_lt_of_cell? w _ hw221_4)).trans hw221_4), ((HB.out.cell (World.block_lt_of_cell? w _ hw221_5)).trans hw221_5)⟩ (fun hHeld => ?_); refine with_tabW impl_FairOk.tab6 impl_FairOk.bits6 (fun HT_ HW_ => ?_)
              generalize w40.drew = w41 at BK215 BK219 HB hx221_0 hx221_1 hx221_2 hx221_3 hx221_4 hx221_5 hHeld ⊢
              refine take_ (i := 0) (N := some 31) (v := ?_) (a' := ?_) (bs 20 1) rfl rfl (take_ofW HT_.out HW_.out (by kernel_rfl)) (fun _ _ _ h => h) (Or.inl ⟨by rfl, ?_⟩) hHeld ?_ ?_
              rotate_left
              ·rintro w' ⟨s0, s1, s2, s3, s4, s5, s6, s7, s8, s9, s10, s11, s12, s13, s14, s15, s16⟩
               go_simp
               with_reducible rfl
              rotate_left
              ·simp only [Act.put, List.setIfInBounds_toArray, List.set_cons_zero, List.set_cons_succ, i64_w, i32_w]
               rfl
              refine take_ (i := 1) (N := some 32) (v := ?_) (a' := ?_) (bs 20 2) rfl rfl (take_ofW HT_.out HW_.out (by kernel_rfl)) (fun _ _ _ h => h) (Or.inl ⟨by rfl, ?_⟩) hHeld ?_ ?_
              rotate_left
              ·rintro w' ⟨s0, s1, s2, s3, s4, s5, s6, s7, s8, s9, s10, s11, s12, s13, s14, s15, s16⟩
               go_simp
               with_reducible rfl
              rotate_left
              ·simp only [Act.put, List.setIfInBounds_toArray, List.set_cons_zero, List.set_cons_succ, i64_w, i32_w]
               rfl
              refine one_ (i := 2) (N := some 33) (bs 20 3) rfl rfl (one_of HT_.out (by kernel_rfl)) (by decide) (fun K hK => ?_)
              refine goes_ Try.func53 (by kernel_rfl) rfl #[.agg #[.int .i64 a0_0, .int .i64 a0_1, .int .i64 a0_2, .int .i64 a0_3, .slice (some ad218) l0_4.length c0_4], .agg #[.int .i64 ((rd_T38 l0_4 x26_2).f0), .int .i64 ((rd_T38 l0_4 x26_2).f1), .bool ((rd_T38 l0_4 x26_2).f2), .int .i64 ((rd_T38 l0_4 x26_2).f3.f0), .int .i64 ((rd_T38 l0_4 x26_2).f3.f1), .int .i64 ((rd_T38 l0_4 x26_2).f3.f2)]] (by rfl) rfl rfl mt_ ?_
              with_reducible refine (impl_Fair_kidOk.calls a0_0 a0_1 a0_2 a0_3 _ _ l0_4 ((rd_T38 l0_4 x26_2).f0) ((rd_T38 l0_4 x26_2).f1) ((rd_T38 l0_4 x26_2).f2) ((rd_T38 l0_4 x26_2).f3.f0) ((rd_T38 l0_4 x26_2).f3.f1) ((rd_T38 l0_4 x26_2).f3.f2) true _ ?side1 ?side2 A24.out).mono ?_
              (case side1 => repeat (first | exact (Kd.C_below HR0_4.out HB.out) | (with_reducible refine Kd.C_alloc ?_ _) | (with_reducible refine Kd.C_drewN ?_ _) | (with_reducible refine Kd.C_drew ?_)))
              (case side2 => exact HC0_4.out)
              rintro e w42 ⟨rfl, hb⟩
              refine ⟨_, rfl, ?_⟩
              have n0_ := Aside0.mk (blk_below (g := gb215) (o := .cells #[.int .i64 a0_0, .int .i64 a0_1, .int .i64 a0_2, .int .i64 a0_3, .slice (some ad218) l0_4.length c0_4] 32 (0, 0)) (bk_ BK215) hb)
              have n1_ := Aside0.mk (blk_below (g := gb219) (o := .cells #[.int .i64 ((rd_T38 l0_4 x26_2).f0), .int .i64 ((rd_T38 l0_4 x26_2).f1), .bool ((rd_T38 l0_4 x26_2).f2), .int .i64 ((rd_T38 l0_4 x26_2).f3.f0), .int .i64 ((rd_T38 l0_4 x26_2).f3.f1), .int .i64 ((rd_T38 l0_4 x26_2).f3.f2)] 38 (0, 0)) (bk_ BK219) hb)
              have n2_ := Aside0.mk (below_step (by repeat (first | (with_reducible first | exact HB.out | apply below_alloc | apply pw_below_drewN | apply below_drew1 | refine below_set ?_ GE215.out | refine below_set ?_ GE219.out) | exact HB.out)) hb)
              clear BK215
              clear BK219
              clear HB
              have BK215 := n0_
              have BK219 := n1_
              have HB := n2_
              clear n0_ n1_ n2_
              (try clear hb)
              (try clear hb2)
              (try clear hk)
              (try clear hi)
              refine hK.out _ _ ⟨(blk_cell BK215.out 0).trans rfl, (blk_cell BK215.out 1).trans rfl, (blk_cell BK215.out 2).trans rfl, (blk_cell BK215.out 3).trans rfl, (blk_cell BK215.out 4).trans rfl, (blk_cell BK219.out 0).trans rfl, (blk_cell BK219.out 1).trans rfl, (blk_cell BK219.out 2).trans rfl, (blk_cell BK219.out 3).trans rfl, (blk_cell BK219.out 4).trans rfl, (blk_cell BK219.out 5).trans rfl, ((HB.out.cell (World.block_lt_of_cell? w _ hw221_0)).trans hw221_0), ((HB.out.cell (World.block_lt_of_cell? w _ hw221_1)).trans hw221_1), ((HB.out.cell (World.block_lt_of_cell? w _ hw221_2)).trans hw221_2), ((HB.out.cell (World.block_lt_of_cell? w _ hw221_3)).trans hw221_3), ((HB.out.cell (World.block_lt_of_cell? w _ hw221_4)).trans hw221_4), ((HB.out.cell (World.block_lt_of_cell? w _ hw221_5)).trans hw221_5)⟩ (fun hHeld => ?_)
              clear hK K
              refine norm_ (a' := ?_) ?_ ?_
              rotate_left
              ·show Act.put _ (some 33) _ = _
               simp only [Act.put, List.setIfInBounds_toArray, List.set_cons_zero, List.set_cons_succ, i64_w, i32_w]
               rfl
              refine pure_s (i := 3) (N := some 34) (bs 20 4) (any_of HT_.out (by kernel_rfl)) (h := ?_)
              refine pure_s (i := 4) (N := some 35) (bs 20 5) (any_of HT_.out (by kernel_rfl)) (h := ?_)
              refine pure_s (i := 5) (N := some 36) (bs 20 6) (any_of HT_.out (by kernel_rfl)) (h := ?_)
              refine pure_s (i := 6) (N := some 37) (bs 20 7) (any_of HT_.out (by kernel_rfl)) (h := ?_)
              refine pure_s (i := 7) (N := some 38) (bs 20 8) (any_of HT_.out (by kernel_rfl)) (h := ?_)
              refine pure_s (i := 8) (N := some 39) (bs 20 9) (any_of HT_.out (by kernel_rfl)) (h := ?_)
              refine pure_s (i := 10) (N := some 41) #[oT,oT,oT,oT,oT,oT,oT,oT,oT,oF,oT,oF,oF,oF,oF,oF,oF,oF,oF,oF] (any_of HT_.out (by kernel_rfl)) (h := ?_)
              refine pure_s (i := 11) (N := some 42) #[oT,oT,oT,oT,oT,oT,oT,oT,oT,oF,oT,oT,oF,oF,oF,oF,oF,oF,oF,oF] (any_of HT_.out (by kernel_rfl)) (h := ?_)
              refine pure_s (i := 15) (N := some 46) #[oT,oT,oT,oT,oT,oT,oT,oT,oT,oF,oT,oT,oF,oF,oF,oT,oF,oF,oF,oF] (any_of HT_.out (by kernel_rfl)) (h := ?_)
              refine take_ (i := 9) (N := some 40) (v := ?_) (a' := ?_) #[oT,oT,oT,oT,oT,oT,oT,oT,oT,oT,oT,oT,oF,oF,oF,oT,oF,oF,oF,oF] rfl rfl (take_ofW HT_.out HW_.out (by kernel_rfl)) (fun _ _ _ h => h) (Or.inl ⟨by rfl, ?_⟩) hHeld ?_ ?_
              rotate_left
              ·rintro w' ⟨s0, s1, s2, s3, s4, s5, s6, s7, s8, s9, s10, s11, s12, s13, s14, s15, s16⟩
               go_simp
               with_reducible rfl
              rotate_left
              ·simp only [Act.put, List.setIfInBounds_toArray, List.set_cons_zero, List.set_cons_succ, i64_w, i32_w]
               rfl
              refine pure_s (i := 12) (N := some 43) #[oT,oT,oT,oT,oT,oT,oT,oT,oT,oT,oT,oT,oT,oF,oF,oT,oF,oF,oF,oF] (any_of HT_.out (by kernel_rfl)) (h := ?_)
              refine pure_s (i := 13) (N := some 44) #[oT,oT,oT,oT,oT,oT,oT,oT,oT,oT,oT,oT,oT,oT,oF,oT,oF,oF,oF,oF] (any_of HT_.out (by kernel_rfl)) (h := ?_)
              refine take_ (i := 14) (N := some 45) (v := ?_) (a' := ?_) (bs 20 16) rfl rfl (take_ofW HT_.out HW_.out (by kernel_rfl)) (fun _ _ _ h => h) (Or.inl ⟨by rfl, ?_⟩) hHeld ?_ ?_
              rotate_left
              ·rintro w' ⟨s0, s1, s2, s3, s4, s5, s6, s7, s8, s9, s10, s11, s12, s13, s14, s15, s16⟩
               go_simp
               with_reducible rfl
              rotate_left
              ·simp only [Act.put, List.setIfInBounds_toArray, List.set_cons_zero, List.set_cons_succ, i64_w, i32_w]
               rfl
              refine take_ (i := 16) (N := some 47) (v := ?_) (a' := ?_) (bs 20 17) rfl rfl (take_ofW HT_.out HW_.out (by kernel_rfl)) (fun _ _ _ h => h) (Or.inl ⟨by rfl, ?_⟩) hHeld ?_ ?_
              rotate_left
              ·rintro w' ⟨s0, s1, s2, s3, s4, s5, s6, s7, s8, s9, s10, s11, s12, s13, s14, s15, s16⟩
               go_simp
               with_reducible rfl
              rotate_left
              ·simp only [Act.put, List.setIfInBounds_toArray, List.set_cons_zero, List.set_cons_succ, i64_w, i32_w]
               rfl
              refine pure_s (i := 17) (N := some 48) (bs 20 18) (any_of HT_.out (by kernel_rfl)) (h := ?_)
              refine pure_s (i := 18) (N := some 49) (bs 20 19) (any_of HT_.out (by kernel_rfl)) (h := ?_)
              refine pure_s (i := 19) (N := some 50) (bs 20 20) (any_of HT_.out (by kernel_rfl)) (h := ?_)
              refine done_ (done_of HT_.out (by kernel_rfl)) ?_
              try go_wp2
              go_roundg k2
              case measure => have := HJ1.out; have := HK2.out; omega
              case rel => exact ⟨(wrap64 (x26_2 + 1)), (by first | rfl | (simp; done) | (simp [*]; done)), H', ⟨by have := HJ1.out; have := HK2.out; omega⟩, ⟨bk_ BK215⟩, ⟨by repeat (first | (with_reducible first | exact HB.out | apply below_alloc | apply pw_below_drewN | apply below_drew1 | refine below_set ?_ GE215.out | refine below_set ?_ GE219.out) | exact HB.out)⟩⟩
            ·rw [if_neg c29] at H
             exact absurd H (by simp)
           ·rw [if_neg c28] at H
            exact absurd H (by simp)
          ·rw [if_neg c26] at H
           have c26b0 : decide (0 < x26_2) = false := decide_eq_false c26
           clear c26
           have H' := Aside0.mk H
           clear H
           have p218 : 0 ≤ (x26_2 : Int) := of_decide_eq_true (by first | (with_reducible assumption) | assumption)
           have q218 : x26_2 < (l0_4.length : Int) := of_decide_eq_true (by first | (with_reducible assumption) | assumption)
           obtain ⟨ad218, e218, hx218_0, hx218_1, hx218_2, hx218_3, hx218_4, hx218_5⟩ := at_T38 HR0_4.out x26_2 p218 q218
           cases e218
           replace hx218_0 := (HB.out.cell (World.block_lt_of_cell? w _ hx218_0)).trans hx218_0
           replace hx218_1 := (HB.out.cell (World.block_lt_of_cell? w _ hx218_1)).trans hx218_1
           replace hx218_2 := (HB.out.cell (World.block_lt_of_cell? w _ hx218_2)).trans hx218_2
           replace hx218_3 := (HB.out.cell (World.block_lt_of_cell? w _ hx218_3)).trans hx218_3
           replace hx218_4 := (HB.out.cell (World.block_lt_of_cell? w _ hx218_4)).trans hx218_4
           replace hx218_5 := (HB.out.cell (World.block_lt_of_cell? w _ hx218_5)).trans hx218_5
           replace p218 := eq_true p218
           replace q218 := eq_true q218
           try go_wp2_with (first | ((with_reducible refine gate_dst (N := 4) rfl ?_); (try (refine gate_guard (by rfl) ?_; dsimp only)); refine box_event ?hg (N := 4) ?hd (cs := #[.int .i64 0, .int .i64 0, .bool false, .int .i64 0, .int .i64 0, .int .i64 0]) (t := 38) ?hr ?_; (case hd => rfl); (case hg => rfl); (case hr => first | (go_simp; done) | (go_simp; rfl)); intro gb219 hg w43 hbox hb; have n0_ := Aside0.mk (blk_below (g := gb215) (o := .cells #[.int .i64 a0_0, .int .i64 a0_1, .int .i64 a0_2, .int .i64 a0_3, .slice (some ad218) l0_4.length c0_4] 32 (0, 0)) (bk_ BK215) hb); have n1_ := Aside0.mk (below_step (by repeat (first | (with_reducible first | exact HB.out | apply below_alloc | apply pw_below_drewN | apply below_drew1 | refine below_set ?_ GE215.out) | exact HB.out)) hb); have n2_ := Aside0.mk (hbox); have n3_ := Aside0.mk ((by rw [hg]; exact (below_size (by repeat (first | (with_reducible first | exact HB.out | apply below_alloc | apply pw_below_drewN | apply below_drew1 | refine below_set ?_ GE215.out) | exact HB.out))) : w.heap.size ≤ gb219)); have n4_ := Aside0.mk ((by rw [hg]; exact (below_size (by repeat (first | (with_reducible first | exact HB.out | apply below_alloc | apply pw_below_drewN | apply below_drew1 | refine below_set ?_ GE215.out) | exact HB.out))) : w.heap.size ≤ gb219)); have n5_ := Aside0.mk ((by rw [hg]; exact Nat.ne_of_lt (blk_lt (g := gb215) (o := .cells #[.int .i64 a0_0, .int .i64 a0_1, .int .i64 a0_2, .int .i64 a0_3, .slice (some ad218) l0_4.length c0_4] 32 (0, 0)) (bk_ BK215)) : gb215 ≠ gb219)); have n6_ := Aside0.mk ((by rw [hg]; exact Nat.ne_of_gt (blk_lt (g := gb215) (o := .cells #[.int .i64 a0_0, .int .i64 a0_1, .int .i64 a0_2, .int .i64 a0_3, .slice (some ad218) l0_4.length c0_4] 32 (0, 0)) (bk_ BK215)) : gb219 ≠ gb215)); clear BK215; clear HB; have BK215 := n0_; have HB := n1_; have BK219 := n2_; have GW219 := n3_; have GE219 := n4_; have NB215_219 := n5_; have NB219_215 := n6_; clear n0_ n1_ n2_ n3_ n4_ n5_ n6_; clear hb hbox hg; have hnb44 := NB219_215.out; have hnc44 := NB215_219.out; have hcz45_0 : w43.cell? ⟨gb219, 0, none⟩ = some (.int .i64 0) := (blk_cell BK219.out 0).trans rfl; have hcz45_1 : w43.cell? ⟨gb219, 1, none⟩ = some (.int .i64 0) := (blk_cell BK219.out 1).trans rfl; have hcz45_2 : w43.cell? ⟨gb219, 2, none⟩ = some (.bool false) := (blk_cell BK219.out 2).trans rfl; have hcz45_3 : w43.cell? ⟨gb219, 3, none⟩ = some (.int .i64 0) := (blk_cell BK219.out 3).trans rfl; have hcz45_4 : w43.cell? ⟨gb219, 4, none⟩ = some (.int .i64 0) := (blk_cell BK219.out 4).trans rfl; have hcz45_5 : w43.cell? ⟨gb219, 5, none⟩ = some (.int .i64 0) := (blk_cell BK219.out 5).trans rfl; have hfz45_0 := blk_frozen BK219.out 0; have hfz45_1 := blk_frozen BK219.out 1; have hfz45_2 := blk_frozen BK219.out 2; have hfz45_3 := blk_frozen BK219.out 3; have hfz45_4 := blk_frozen BK219.out 4; have hfz45_5 := blk_frozen BK219.out 5))
           have n0_ : Aside0 (((((((w43.setCell ⟨gb219, 0, none⟩ (.int .i64 ((rd_T38 l0_4 x26_2).f0))).setCell ⟨gb219, 1, none⟩ (.int .i64 ((rd_T38 l0_4 x26_2).f1))).setCell ⟨gb219, 2, none⟩ (.bool ((rd_T38 l0_4 x26_2).f2))).setCell ⟨gb219, 3, none⟩ (.int .i64 ((rd_T38 l0_4 x26_2).f3.f0))).setCell ⟨gb219, 4, none⟩ (.int .i64 ((rd_T38 l0_4 x26_2).f3.f1))).setCell ⟨gb219, 5, none⟩ (.int .i64 ((rd_T38 l0_4 x26_2).f3.f2))).heap[gb215]? = some (.cells #[.int .i64 a0_0, .int .i64 a0_1, .int .i64 a0_2, .int .i64 a0_3, .slice (some ad218) l0_4.length c0_4] 32 (0, 0))) := ⟨by (with_reducible repeat (first | refine blk_drewN ?_ _ | refine blk_drew ?_ | refine blk_alloc ?_ _)); refine blk_far ?_ NB215_219.out _; (with_reducible repeat (first | refine blk_drewN ?_ _ | refine blk_drew ?_ | refine blk_alloc ?_ _)); refine blk_far ?_ NB215_219.out _; (with_reducible repeat (first | refine blk_drewN ?_ _ | refine blk_drew ?_ | refine blk_alloc ?_ _)); refine blk_far ?_ NB215_219.out _; (with_reducible repeat (first | refine blk_drewN ?_ _ | refine blk_drew ?_ | refine blk_alloc ?_ _)); refine blk_far ?_ NB215_219.out _; (with_reducible repeat (first | refine blk_drewN ?_ _ | refine blk_drew ?_ | refine blk_alloc ?_ _)); refine blk_far ?_ NB215_219.out _; (with_reducible repeat (first | refine blk_drewN ?_ _ | refine blk_drew ?_ | refine blk_alloc ?_ _)); refine blk_far ?_ NB215_219.out _; exact bk_ BK215⟩
           have n1_ : Aside0 (((((((w43.setCell ⟨gb219, 0, none⟩ (.int .i64 ((rd_T38 l0_4 x26_2).f0))).setCell ⟨gb219, 1, none⟩ (.int .i64 ((rd_T38 l0_4 x26_2).f1))).setCell ⟨gb219, 2, none⟩ (.bool ((rd_T38 l0_4 x26_2).f2))).setCell ⟨gb219, 3, none⟩ (.int .i64 ((rd_T38 l0_4 x26_2).f3.f0))).setCell ⟨gb219, 4, none⟩ (.int .i64 ((rd_T38 l0_4 x26_2).f3.f1))).setCell ⟨gb219, 5, none⟩ (.int .i64 ((rd_T38 l0_4 x26_2).f3.f2))).heap[gb219]? = some (.cells #[.int .i64 ((rd_T38 l0_4 x26_2).f0), .int .i64 ((rd_T38 l0_4 x26_2).f1), .bool ((rd_T38 l0_4 x26_2).f2), .int .i64 ((rd_T38 l0_4 x26_2).f3.f0), .int .i64 ((rd_T38 l0_4 x26_2).f3.f1), .int .i64 ((rd_T38 l0_4 x26_2).f3.f2)] 38 (0, 0))) := ⟨by (with_reducible repeat (first | refine blk_drewN ?_ _ | refine blk_drew ?_ | refine blk_alloc ?_ _)); refine blk_put (cs := #[.int .i64 ((rd_T38 l0_4 x26_2).f0), .int .i64 ((rd_T38 l0_4 x26_2).f1), .bool ((rd_T38 l0_4 x26_2).f2), .int .i64 ((rd_T38 l0_4 x26_2).f3.f0), .int .i64 ((rd_T38 l0_4 x26_2).f3.f1), .int .i64 0]) ?_ 5 _ rfl; (with_reducible repeat (first | refine blk_drewN ?_ _ | refine blk_drew ?_ | refine blk_alloc ?_ _)); refine blk_put (cs := #[.int .i64 ((rd_T38 l0_4 x26_2).f0), .int .i64 ((rd_T38 l0_4 x26_2).f1), .bool ((rd_T38 l0_4 x26_2).f2), .int .i64 ((rd_T38 l0_4 x26_2).f3.f0), .int .i64 0, .int .i64 0]) ?_ 4 _ rfl; (with_reducible repeat (first | refine blk_drewN ?_ _ | refine blk_drew ?_ | refine blk_alloc ?_ _)); refine blk_put (cs := #[.int .i64 ((rd_T38 l0_4 x26_2).f0), .int .i64 ((rd_T38 l0_4 x26_2).f1), .bool ((rd_T38 l0_4 x26_2).f2), .int .i64 0, .int .i64 0, .int .i64 0]) ?_ 3 _ rfl; (with_reducible repeat (first | refine blk_drewN ?_ _ | refine blk_drew ?_ | refine blk_alloc ?_ _)); refine blk_put (cs := #[.int .i64 ((rd_T38 l0_4 x26_2).f0), .int .i64 ((rd_T38 l0_4 x26_2).f1), .bool false, .int .i64 0, .int .i64 0, .int .i64 0]) ?_ 2 _ rfl; (with_reducible repeat (first | refine blk_drewN ?_ _ | refine blk_drew ?_ | refine blk_alloc ?_ _)); refine blk_put (cs := #[.int .i64 ((rd_T38 l0_4 x26_2).f0), .int .i64 0, .bool false, .int .i64 0, .int .i64 0, .int .i64 0]) ?_ 1 _ rfl; (with_reducible repeat (first | refine blk_drewN ?_ _ | refine blk_drew ?_ | refine blk_alloc ?_ _)); refine blk_put (cs := #[.int .i64 0, .int .i64 0, .bool false, .int .i64 0, .int .i64 0, .int .i64 0]) ?_ 0 _ rfl; exact bk_ BK219⟩
           have n2_ : Aside0 (Below w.heap.size w ((((((w43.setCell ⟨gb219, 0, none⟩ (.int .i64 ((rd_T38 l0_4 x26_2).f0))).setCell ⟨gb219, 1, none⟩ (.int .i64 ((rd_T38 l0_4 x26_2).f1))).setCell ⟨gb219, 2, none⟩ (.bool ((rd_T38 l0_4 x26_2).f2))).setCell ⟨gb219, 3, none⟩ (.int .i64 ((rd_T38 l0_4 x26_2).f3.f0))).setCell ⟨gb219, 4, none⟩ (.int .i64 ((rd_T38 l0_4 x26_2).f3.f1))).setCell ⟨gb219, 5, none⟩ (.int .i64 ((rd_T38 l0_4 x26_2).f3.f2)))) := ⟨by repeat (first | (with_reducible first | exact HB.out | apply below_alloc | apply pw_below_drewN | apply below_drew1 | refine below_set ?_ GE215.out | refine below_set ?_ GE219.out) | exact HB.out)⟩
           (try clear BK215)
           (try clear BK219)
           (try clear HB)
           generalize ((((((w43.setCell ⟨gb219, 0, none⟩ (.int .i64 ((rd_T38 l0_4 x26_2).f0))).setCell ⟨gb219, 1, none⟩ (.int .i64 ((rd_T38 l0_4 x26_2).f1))).setCell ⟨gb219, 2, none⟩ (.bool ((rd_T38 l0_4 x26_2).f2))).setCell ⟨gb219, 3, none⟩ (.int .i64 ((rd_T38 l0_4 x26_2).f3.f0))).setCell ⟨gb219, 4, none⟩ (.int .i64 ((rd_T38 l0_4 x26_2).f3.f1))).setCell ⟨gb219, 5, none⟩ (.int .i64 ((rd_T38 l0_4 x26_2).f3.f2))) = w46 at n0_ n1_ n2_ ⊢
           have BK215 := n0_
           have BK219 := n1_
           have HB := n2_
           clear n0_ n1_ n2_
           have n0_ := Aside0.mk (blk_drew BK215.out)
           have n1_ := Aside0.mk (blk_drew BK219.out)
           have n2_ := Aside0.mk (below_drew1 HB.out)
           clear BK215
           clear BK219
           clear HB
           have BK215 := n0_
           have BK219 := n1_
           have HB := n2_
           clear n0_ n1_ n2_
           refine start_ (n := 20) (S := fun w' => w'.cell? ⟨gb215, 0, none⟩ = some (.int .i64 a0_0) ∧ w'.cell? ⟨gb215, 1, none⟩ = some (.int .i64 a0_1) ∧ w'.cell? ⟨gb215, 2, none⟩ = some (.int .i64 a0_2) ∧ w'.cell? ⟨gb215, 3, none⟩ = some (.int .i64 a0_3) ∧ w'.cell? ⟨gb215, 4, none⟩ = some (.slice (some ad218) l0_4.length c0_4) ∧ w'.cell? ⟨gb219, 0, none⟩ = some (.int .i64 ((rd_T38 l0_4 x26_2).f0)) ∧ w'.cell? ⟨gb219, 1, none⟩ = some (.int .i64 ((rd_T38 l0_4 x26_2).f1)) ∧ w'.cell? ⟨gb219, 2, none⟩ = some (.bool ((rd_T38 l0_4 x26_2).f2)) ∧ w'.cell? ⟨gb219, 3, none⟩ = some (.int .i64 ((rd_T38 l0_4 x26_2).f3.f0)) ∧ w'.cell? ⟨gb219, 4, none⟩ = some (.int .i64 ((rd_T38 l0_4 x26_2).f3.f1)) ∧ w'.cell? ⟨gb219, 5, none⟩ = some (.int .i64 ((rd_T38 l0_4 x26_2).f3.f2))) (ds := []) (bs 20 0) (by kernel_rfl) rfl rfl ⟨(blk_cell BK215.out 0).trans rfl, (blk_cell BK215.out 1).trans rfl, (blk_cell BK215.out 2).trans rfl, (blk_cell BK215.out 3).trans rfl, (blk_cell BK215.out 4).trans rfl, (blk_cell BK219.out 0).trans rfl, (blk_cell BK219.out 1).trans rfl, (blk_cell BK219.out 2).trans rfl, (blk_cell BK219.out 3).trans rfl, (blk_cell BK219.out 4).trans rfl, (blk_cell BK219.out 5).trans rfl⟩ (fun hHeld => ?_); refine with_tabW impl_FairOk.tab6 impl_FairOk.bits6 (fun HT_ HW_ => ?_)
           generalize w46.drew = w47 at BK215 BK219 HB hHeld ⊢
           refine take_ (i := 0) (N := some 31) (v := ?_) (a' := ?_) (bs 20 1) rfl rfl (take_ofW HT_.out HW_.out (by kernel_rfl)) (fun _ _ _ h => h) (Or.inl ⟨by rfl, ?_⟩) hHeld ?_ ?_
           rotate_left
           ·rintro w' ⟨s0, s1, s2, s3, s4, s5, s6, s7, s8, s9, s10⟩
            go_simp
            with_reducible rfl
           rotate_left
           ·simp only [Act.put, List.setIfInBounds_toArray, List.set_cons_zero, List.set_cons_succ, i64_w, i32_w]
            rfl
           refine take_ (i := 1) (N := some 32) (v := ?_) (a' := ?_) (bs 20 2) rfl rfl (take_ofW HT_.out HW_.out (by kernel_rfl)) (fun _ _ _ h => h) (Or.inl ⟨by rfl, ?_⟩) hHeld ?_ ?_
           rotate_left
           ·rintro w' ⟨s0, s1, s2, s3, s4, s5, s6, s7, s8, s9, s10⟩
            go_simp
            with_reducible rfl
           rotate_left
           ·simp only [Act.put, List.setIfInBounds_toArray, List.set_cons_zero, List.set_cons_succ, i64_w, i32_w]
            rfl
           refine one_ (i := 2) (N := some 33) (bs 20 3) rfl rfl (one_of HT_.out (by kernel_rfl)) (by decide) (fun K hK => ?_)
           refine goes_ Try.func53 (by kernel_rfl) rfl #[.agg #[.int .i64 a0_0, .int .i64 a0_1, .int .i64 a0_2, .int .i64 a0_3, .slice (some ad218) l0_4.length c0_4], .agg #[.int .i64 ((rd_T38 l0_4 x26_2).f0), .int .i64 ((rd_T38 l0_4 x26_2).f1), .bool ((rd_T38 l0_4 x26_2).f2), .int .i64 ((rd_T38 l0_4 x26_2).f3.f0), .int .i64 ((rd_T38 l0_4 x26_2).f3.f1), .int .i64 ((rd_T38 l0_4 x26_2).f3.f2)]] (by rfl) rfl rfl mt_ ?_
           with_reducible refine (impl_Fair_kidOk.calls a0_0 a0_1 a0_2 a0_3 _ _ l0_4 ((rd_T38 l0_4 x26_2).f0) ((rd_T38 l0_4 x26_2).f1) ((rd_T38 l0_4 x26_2).f2) ((rd_T38 l0_4 x26_2).f3.f0) ((rd_T38 l0_4 x26_2).f3.f1) ((rd_T38 l0_4 x26_2).f3.f2) true _ ?side1 ?side2 A24.out).mono ?_
           (case side1 => repeat (first | exact (Kd.C_below HR0_4.out HB.out) | (with_reducible refine Kd.C_alloc ?_ _) | (with_reducible refine Kd.C_drewN ?_ _) | (with_reducible refine Kd.C_drew ?_)))
           (case side2 => exact HC0_4.out)
           rintro e w48 ⟨rfl, hb⟩
           refine ⟨_, rfl, ?_⟩
           have n0_ := Aside0.mk (blk_below (g := gb215) (o := .cells #[.int .i64 a0_0, .int .i64 a0_1, .int .i64 a0_2, .int .i64 a0_3, .slice (some ad218) l0_4.length c0_4] 32 (0, 0)) (bk_ BK215) hb)
           have n1_ := Aside0.mk (blk_below (g := gb219) (o := .cells #[.int .i64 ((rd_T38 l0_4 x26_2).f0), .int .i64 ((rd_T38 l0_4 x26_2).f1), .bool ((rd_T38 l0_4 x26_2).f2), .int .i64 ((rd_T38 l0_4 x26_2).f3.f0), .int .i64 ((rd_T38 l0_4 x26_2).f3.f1), .int .i64 ((rd_T38 l0_4 x26_2).f3.f2)] 38 (0, 0)) (bk_ BK219) hb)
           have n2_ := Aside0.mk (below_step (by repeat (first | (with_reducible first | exact HB.out | apply below_alloc | apply pw_below_drewN | apply below_drew1 | refine below_set ?_ GE215.out | refine below_set ?_ GE219.out) | exact HB.out)) hb)
           clear BK215
           clear BK219
           clear HB
           have BK215 := n0_
           have BK219 := n1_
           have HB := n2_
           clear n0_ n1_ n2_
           (try clear hb)
           (try clear hb2)
           (try clear hk)
           (try clear hi)
           refine hK.out _ _ ⟨(blk_cell BK215.out 0).trans rfl, (blk_cell BK215.out 1).trans rfl, (blk_cell BK215.out 2).trans rfl, (blk_cell BK215.out 3).trans rfl, (blk_cell BK215.out 4).trans rfl, (blk_cell BK219.out 0).trans rfl, (blk_cell BK219.out 1).trans rfl, (blk_cell BK219.out 2).trans rfl, (blk_cell BK219.out 3).trans rfl, (blk_cell BK219.out 4).trans rfl, (blk_cell BK219.out 5).trans rfl⟩ (fun hHeld => ?_)
           clear hK K
           refine norm_ (a' := ?_) ?_ ?_
           rotate_left
           ·show Act.put _ (some 33) _ = _
            simp only [Act.put, List.setIfInBounds_toArray, List.set_cons_zero, List.set_cons_succ, i64_w, i32_w]
            rfl
           refine pure_s (i := 3) (N := some 34) (bs 20 4) (any_of HT_.out (by kernel_rfl)) (h := ?_)
           refine pure_s (i := 4) (N := some 35) (bs 20 5) (any_of HT_.out (by kernel_rfl)) (h := ?_)
           refine pure_s (i := 5) (N := some 36) (bs 20 6) (any_of HT_.out (by kernel_rfl)) (h := ?_)
           refine pure_s (i := 6) (N := some 37) (bs 20 7) (any_of HT_.out (by kernel_rfl)) (h := ?_)
           refine pure_s (i := 7) (N := some 38) (bs 20 8) (any_of HT_.out (by kernel_rfl)) (h := ?_)
           refine pure_u (i := 8) (N := some 39) (bs 20 9) (any_of HT_.out (by kernel_rfl)) (h := ?_)
           refine pure_u (i := 9) (N := some 40) (bs 20 10) (any_of HT_.out (by kernel_rfl)) (h := ?_)
           refine pure_u (i := 10) (N := some 41) (bs 20 11) (any_of HT_.out (by kernel_rfl)) (h := ?_)
           refine pure_u (i := 11) (N := some 42) (bs 20 12) (any_of HT_.out (by kernel_rfl)) (h := ?_)
           refine pure_u (i := 12) (N := some 43) (bs 20 13) (any_of HT_.out (by kernel_rfl)) (h := ?_)
           refine pure_u (i := 13) (N := some 44) (bs 20 14) (any_of HT_.out (by kernel_rfl)) (h := ?_)
           refine pure_u (i := 14) (N := some 45) (bs 20 15) (any_of HT_.out (by kernel_rfl)) (h := ?_)
           refine pure_u (i := 15) (N := some 46) (bs 20 16) (any_of HT_.out (by kernel_rfl)) (h := ?_)
           refine pure_u (i := 16) (N := some 47) (bs 20 17) (any_of HT_.out (by kernel_rfl)) (h := ?_)
           refine pure_u (i := 17) (N := some 48) (bs 20 18) (any_of HT_.out (by kernel_rfl)) (h := ?_)
           refine pure_s (i := 18) (N := some 49) (bs 20 19) (any_of HT_.out (by kernel_rfl)) (h := ?_)
           refine pure_s (i := 19) (N := some 50) (bs 20 20) (any_of HT_.out (by kernel_rfl)) (h := ?_)
           refine done_ (done_of HT_.out (by kernel_rfl)) ?_
           try go_wp2
           go_roundg k2
           case measure => have := HJ1.out; have := HK2.out; omega
           case rel => exact ⟨(wrap64 (x26_2 + 1)), (by first | rfl | (simp; done) | (simp [*]; done)), H', ⟨by have := HJ1.out; have := HK2.out; omega⟩, ⟨bk_ BK215⟩, ⟨by repeat (first | (with_reducible first | exact HB.out | apply below_alloc | apply pw_below_drewN | apply below_drew1 | refine below_set ?_ GE215.out | refine below_set ?_ GE219.out) | exact HB.out)⟩⟩
         ·replace c25 := Bool.eq_false_iff.mpr c25
          subst c25
          have H1 : (some false) = some r := by rw [if_neg (show ¬ (false = true) by decide)] at H; exact H
          clear H
          have H := H1
          clear H1
          obtain rfl := Option.some.inj H
          have p218 : 0 ≤ (x26_2 : Int) := of_decide_eq_true (by first | (with_reducible assumption) | assumption)
          have q218 : x26_2 < (l0_4.length : Int) := of_decide_eq_true (by first | (with_reducible assumption) | assumption)
          obtain ⟨ad218, e218, hx218_0, hx218_1, hx218_2, hx218_3, hx218_4, hx218_5⟩ := at_T38 HR0_4.out x26_2 p218 q218
          cases e218
          replace hx218_0 := (HB.out.cell (World.block_lt_of_cell? w _ hx218_0)).trans hx218_0
          replace hx218_1 := (HB.out.cell (World.block_lt_of_cell? w _ hx218_1)).trans hx218_1
          replace hx218_2 := (HB.out.cell (World.block_lt_of_cell? w _ hx218_2)).trans hx218_2
          replace hx218_3 := (HB.out.cell (World.block_lt_of_cell? w _ hx218_3)).trans hx218_3
          replace hx218_4 := (HB.out.cell (World.block_lt_of_cell? w _ hx218_4)).trans hx218_4
          replace hx218_5 := (HB.out.cell (World.block_lt_of_cell? w _ hx218_5)).trans hx218_5
          replace p218 := eq_true p218
          replace q218 := eq_true q218
          try go_wp2_with (first | ((with_reducible refine gate_dst (N := 4) rfl ?_); (try (refine gate_guard (by rfl) ?_; dsimp only)); refine box_event ?hg (N := 4) ?hd (cs := #[.int .i64 0, .int .i64 0, .bool false, .int .i64 0, .int .i64 0, .int .i64 0]) (t := 38) ?hr ?_; (case hd => rfl); (case hg => rfl); (case hr => first | (go_simp; done) | (go_simp; rfl)); intro gb219 hg w49 hbox hb; have n0_ := Aside0.mk (blk_below (g := gb215) (o := .cells #[.int .i64 a0_0, .int .i64 a0_1, .int .i64 a0_2, .int .i64 a0_3, .slice (some ad218) l0_4.length c0_4] 32 (0, 0)) (bk_ BK215) hb); have n1_ := Aside0.mk (below_step (by repeat (first | (with_reducible first | exact HB.out | apply below_alloc | apply pw_below_drewN | apply below_drew1 | refine below_set ?_ GE215.out) | exact HB.out)) hb); have n2_ := Aside0.mk (hbox); have n3_ := Aside0.mk ((by rw [hg]; exact (below_size (by repeat (first | (with_reducible first | exact HB.out | apply below_alloc | apply pw_below_drewN | apply below_drew1 | refine below_set ?_ GE215.out) | exact HB.out))) : w.heap.size ≤ gb219)); have n4_ := Aside0.mk ((by rw [hg]; exact (below_size (by repeat (first | (with_reducible first | exact HB.out | apply below_alloc | apply pw_below_drewN | apply below_drew1 | refine below_set ?_ GE215.out) | exact HB.out))) : w.heap.size ≤ gb219)); have n5_ := Aside0.mk ((by rw [hg]; exact Nat.ne_of_lt (blk_lt (g := gb215) (o := .cells #[.int .i64 a0_0, .int .i64 a0_1, .int .i64 a0_2, .int .i64 a0_3, .slice (some ad218) l0_4.length c0_4] 32 (0, 0)) (bk_ BK215)) : gb215 ≠ gb219)); have n6_ := Aside0.mk ((by rw [hg]; exact Nat.ne_of_gt (blk_lt (g := gb215) (o := .cells #[.int .i64 a0_0, .int .i64 a0_1, .int .i64 a0_2, .int .i64 a0_3, .slice (some ad218) l0_4.length c0_4] 32 (0, 0)) (bk_ BK215)) : gb219 ≠ gb215)); clear BK215; clear HB; have BK215 := n0_; have HB := n1_; have BK219 := n2_; have GW219 := n3_; have GE219 := n4_; have NB215_219 := n5_; have NB219_215 := n6_; clear n0_ n1_ n2_ n3_ n4_ n5_ n6_; clear hb hbox hg; have hnb50 := NB219_215.out; have hnc50 := NB215_219.out; have hcz51_0 : w49.cell? ⟨gb219, 0, none⟩ = some (.int .i64 0) := (blk_cell BK219.out 0).trans rfl; have hcz51_1 : w49.cell? ⟨gb219, 1, none⟩ = some (.int .i64 0) := (blk_cell BK219.out 1).trans rfl; have hcz51_2 : w49.cell? ⟨gb219, 2, none⟩ = some (.bool false) := (blk_cell BK219.out 2).trans rfl; have hcz51_3 : w49.cell? ⟨gb219, 3, none⟩ = some (.int .i64 0) := (blk_cell BK219.out 3).trans rfl; have hcz51_4 : w49.cell? ⟨gb219, 4, none⟩ = some (.int .i64 0) := (blk_cell BK219.out 4).trans rfl; have hcz51_5 : w49.cell? ⟨gb219, 5, none⟩ = some (.int .i64 0) := (blk_cell BK219.out 5).trans rfl; have hfz51_0 := blk_frozen BK219.out 0; have hfz51_1 := blk_frozen BK219.out 1; have hfz51_2 := blk_frozen BK219.out 2; have hfz51_3 := blk_frozen BK219.out 3; have hfz51_4 := blk_frozen BK219.out 4; have hfz51_5 := blk_frozen BK219.out 5))
          have n0_ : Aside0 (((((((w49.setCell ⟨gb219, 0, none⟩ (.int .i64 ((rd_T38 l0_4 x26_2).f0))).setCell ⟨gb219, 1, none⟩ (.int .i64 ((rd_T38 l0_4 x26_2).f1))).setCell ⟨gb219, 2, none⟩ (.bool ((rd_T38 l0_4 x26_2).f2))).setCell ⟨gb219, 3, none⟩ (.int .i64 ((rd_T38 l0_4 x26_2).f3.f0))).setCell ⟨gb219, 4, none⟩ (.int .i64 ((rd_T38 l0_4 x26_2).f3.f1))).setCell ⟨gb219, 5, none⟩ (.int .i64 ((rd_T38 l0_4 x26_2).f3.f2))).heap[gb215]? = some (.cells #[.int .i64 a0_0, .int .i64 a0_1, .int .i64 a0_2, .int .i64 a0_3, .slice (some ad218) l0_4.length c0_4] 32 (0, 0))) := ⟨by (with_reducible repeat (first | refine blk_drewN ?_ _ | refine blk_drew ?_ | refine blk_alloc ?_ _)); refine blk_far ?_ NB215_219.out _; (with_reducible repeat (first | refine blk_drewN ?_ _ | refine blk_drew ?_ | refine blk_alloc ?_ _)); refine blk_far ?_ NB215_219.out _; (with_reducible repeat (first | refine blk_drewN ?_ _ | refine blk_drew ?_ | refine blk_alloc ?_ _)); refine blk_far ?_ NB215_219.out _; (with_reducible repeat (first | refine blk_drewN ?_ _ | refine blk_drew ?_ | refine blk_alloc ?_ _)); refine blk_far ?_ NB215_219.out _; (with_reducible repeat (first | refine blk_drewN ?_ _ | refine blk_drew ?_ | refine blk_alloc ?_ _)); refine blk_far ?_ NB215_219.out _; (with_reducible repeat (first | refine blk_drewN ?_ _ | refine blk_drew ?_ | refine blk_alloc ?_ _)); refine blk_far ?_ NB215_219.out _; exact bk_ BK215⟩
          have n1_ : Aside0 (((((((w49.setCell ⟨gb219, 0, none⟩ (.int .i64 ((rd_T38 l0_4 x26_2).f0))).setCell ⟨gb219, 1, none⟩ (.int .i64 ((rd_T38 l0_4 x26_2).f1))).setCell ⟨gb219, 2, none⟩ (.bool ((rd_T38 l0_4 x26_2).f2))).setCell ⟨gb219, 3, none⟩ (.int .i64 ((rd_T38 l0_4 x26_2).f3.f0))).setCell ⟨gb219, 4, none⟩ (.int .i64 ((rd_T38 l0_4 x26_2).f3.f1))).setCell ⟨gb219, 5, none⟩ (.int .i64 ((rd_T38 l0_4 x26_2).f3.f2))).heap[gb219]? = some (.cells #[.int .i64 ((rd_T38 l0_4 x26_2).f0), .int .i64 ((rd_T38 l0_4 x26_2).f1), .bool ((rd_T38 l0_4 x26_2).f2), .int .i64 ((rd_T38 l0_4 x26_2).f3.f0), .int .i64 ((rd_T38 l0_4 x26_2).f3.f1), .int .i64 ((rd_T38 l0_4 x26_2).f3.f2)] 38 (0, 0))) := ⟨by (with_reducible repeat (first | refine blk_drewN ?_ _ | refine blk_drew ?_ | refine blk_alloc ?_ _)); refine blk_put (cs := #[.int .i64 ((rd_T38 l0_4 x26_2).f0), .int .i64 ((rd_T38 l0_4 x26_2).f1), .bool ((rd_T38 l0_4 x26_2).f2), .int .i64 ((rd_T38 l0_4 x26_2).f3.f0), .int .i64 ((rd_T38 l0_4 x26_2).f3.f1), .int .i64 0]) ?_ 5 _ rfl; (with_reducible repeat (first | refine blk_drewN ?_ _ | refine blk_drew ?_ | refine blk_alloc ?_ _)); refine blk_put (cs := #[.int .i64 ((rd_T38 l0_4 x26_2).f0), .int .i64 ((rd_T38 l0_4 x26_2).f1), .bool ((rd_T38 l0_4 x26_2).f2), .int .i64 ((rd_T38 l0_4 x26_2).f3.f0), .int .i64 0, .int .i64 0]) ?_ 4 _ rfl; (with_reducible repeat (first | refine blk_drewN ?_ _ | refine blk_drew ?_ | refine blk_alloc ?_ _)); refine blk_put (cs := #[.int .i64 ((rd_T38 l0_4 x26_2).f0), .int .i64 ((rd_T38 l0_4 x26_2).f1), .bool ((rd_T38 l0_4 x26_2).f2), .int .i64 0, .int .i64 0, .int .i64 0]) ?_ 3 _ rfl; (with_reducible repeat (first | refine blk_drewN ?_ _ | refine blk_drew ?_ | refine blk_alloc ?_ _)); refine blk_put (cs := #[.int .i64 ((rd_T38 l0_4 x26_2).f0), .int .i64 ((rd_T38 l0_4 x26_2).f1), .bool false, .int .i64 0, .int .i64 0, .int .i64 0]) ?_ 2 _ rfl; (with_reducible repeat (first | refine blk_drewN ?_ _ | refine blk_drew ?_ | refine blk_alloc ?_ _)); refine blk_put (cs := #[.int .i64 ((rd_T38 l0_4 x26_2).f0), .int .i64 0, .bool false, .int .i64 0, .int .i64 0, .int .i64 0]) ?_ 1 _ rfl; (with_reducible repeat (first | refine blk_drewN ?_ _ | refine blk_drew ?_ | refine blk_alloc ?_ _)); refine blk_put (cs := #[.int .i64 0, .int .i64 0, .bool false, .int .i64 0, .int .i64 0, .int .i64 0]) ?_ 0 _ rfl; exact bk_ BK219⟩
          have n2_ : Aside0 (Below w.heap.size w ((((((w49.setCell ⟨gb219, 0, none⟩ (.int .i64 ((rd_T38 l0_4 x26_2).f0))).setCell ⟨gb219, 1, none⟩ (.int .i64 ((rd_T38 l0_4 x26_2).f1))).setCell ⟨gb219, 2, none⟩ (.bool ((rd_T38 l0_4 x26_2).f2))).setCell ⟨gb219, 3, none⟩ (.int .i64 ((rd_T38 l0_4 x26_2).f3.f0))).setCell ⟨gb219, 4, none⟩ (.int .i64 ((rd_T38 l0_4 x26_2).f3.f1))).setCell ⟨gb219, 5, none⟩ (.int .i64 ((rd_T38 l0_4 x26_2).f3.f2)))) := ⟨by repeat (first | (with_reducible first | exact HB.out | apply below_alloc | apply pw_below_drewN | apply below_drew1 | refine below_set ?_ GE215.out | refine below_set ?_ GE219.out) | exact HB.out)⟩
          (try clear BK215)
          (try clear BK219)
          (try clear HB)
          generalize ((((((w49.setCell ⟨gb219, 0, none⟩ (.int .i64 ((rd_T38 l0_4 x26_2).f0))).setCell ⟨gb219, 1, none⟩ (.int .i64 ((rd_T38 l0_4 x26_2).f1))).setCell ⟨gb219, 2, none⟩ (.bool ((rd_T38 l0_4 x26_2).f2))).setCell ⟨gb219, 3, none⟩ (.int .i64 ((rd_T38 l0_4 x26_2).f3.f0))).setCell ⟨gb219, 4, none⟩ (.int .i64 ((rd_T38 l0_4 x26_2).f3.f1))).setCell ⟨gb219, 5, none⟩ (.int .i64 ((rd_T38 l0_4 x26_2).f3.f2))) = w52 at n0_ n1_ n2_ ⊢
          have BK215 := n0_
          have BK219 := n1_
          have HB := n2_
          clear n0_ n1_ n2_
          have n0_ := Aside0.mk (blk_drew BK215.out)
          have n1_ := Aside0.mk (blk_drew BK219.out)
          have n2_ := Aside0.mk (below_drew1 HB.out)
          clear BK215
          clear BK219
          clear HB
          have BK215 := n0_
          have BK219 := n1_
          have HB := n2_
          clear n0_ n1_ n2_
          refine start_ (n := 20) (S := fun w' => w'.cell? ⟨gb215, 0, none⟩ = some (.int .i64 a0_0) ∧ w'.cell? ⟨gb215, 1, none⟩ = some (.int .i64 a0_1) ∧ w'.cell? ⟨gb215, 2, none⟩ = some (.int .i64 a0_2) ∧ w'.cell? ⟨gb215, 3, none⟩ = some (.int .i64 a0_3) ∧ w'.cell? ⟨gb215, 4, none⟩ = some (.slice (some ad218) l0_4.length c0_4) ∧ w'.cell? ⟨gb219, 0, none⟩ = some (.int .i64 ((rd_T38 l0_4 x26_2).f0)) ∧ w'.cell? ⟨gb219, 1, none⟩ = some (.int .i64 ((rd_T38 l0_4 x26_2).f1)) ∧ w'.cell? ⟨gb219, 2, none⟩ = some (.bool ((rd_T38 l0_4 x26_2).f2)) ∧ w'.cell? ⟨gb219, 3, none⟩ = some (.int .i64 ((rd_T38 l0_4 x26_2).f3.f0)) ∧ w'.cell? ⟨gb219, 4, none⟩ = some (.int .i64 ((rd_T38 l0_4 x26_2).f3.f1)) ∧ w'.cell? ⟨gb219, 5, none⟩ = some (.int .i64 ((rd_T38 l0_4 x26_2).f3.f2))) (ds := []) (bs 20 0) (by kernel_rfl) rfl rfl ⟨(blk_cell BK215.out 0).trans rfl, (blk_cell BK215.out 1).trans rfl, (blk_cell BK215.out 2).trans rfl, (blk_cell BK215.out 3).trans rfl, (blk_cell BK215.out 4).trans rfl, (blk_cell BK219.out 0).trans rfl, (blk_cell BK219.out 1).trans rfl, (blk_cell BK219.out 2).trans rfl, (blk_cell BK219.out 3).trans rfl, (blk_cell BK219.out 4).trans rfl, (blk_cell BK219.out 5).trans rfl⟩ (fun hHeld => ?_); refine with_tabW impl_FairOk.tab6 impl_FairOk.bits6 (fun HT_ HW_ => ?_)
          generalize w52.drew = w53 at BK215 BK219 HB hHeld ⊢
          refine take_ (i := 0) (N := some 31) (v := ?_) (a' := ?_) (bs 20 1) rfl rfl (take_ofW HT_.out HW_.out (by kernel_rfl)) (fun _ _ _ h => h) (Or.inl ⟨by rfl, ?_⟩) hHeld ?_ ?_
          rotate_left
          ·rintro w' ⟨s0, s1, s2, s3, s4, s5, s6, s7, s8, s9, s10⟩
           go_simp
           with_reducible rfl
          rotate_left
          ·simp only [Act.put, List.setIfInBounds_toArray, List.set_cons_zero, List.set_cons_succ, i64_w, i32_w]
           rfl
          refine take_ (i := 1) (N := some 32) (v := ?_) (a' := ?_) (bs 20 2) rfl rfl (take_ofW HT_.out HW_.out (by kernel_rfl)) (fun _ _ _ h => h) (Or.inl ⟨by rfl, ?_⟩) hHeld ?_ ?_
          rotate_left
          ·rintro w' ⟨s0, s1, s2, s3, s4, s5, s6, s7, s8, s9, s10⟩
           go_simp
           with_reducible rfl
          rotate_left
          ·simp only [Act.put, List.setIfInBounds_toArray, List.set_cons_zero, List.set_cons_succ, i64_w, i32_w]
           rfl
          refine one_ (i := 2) (N := some 33) (bs 20 3) rfl rfl (one_of HT_.out (by kernel_rfl)) (by decide) (fun K hK => ?_)
          refine goes_ Try.func53 (by kernel_rfl) rfl #[.agg #[.int .i64 a0_0, .int .i64 a0_1, .int .i64 a0_2, .int .i64 a0_3, .slice (some ad218) l0_4.length c0_4], .agg #[.int .i64 ((rd_T38 l0_4 x26_2).f0), .int .i64 ((rd_T38 l0_4 x26_2).f1), .bool ((rd_T38 l0_4 x26_2).f2), .int .i64 ((rd_T38 l0_4 x26_2).f3.f0), .int .i64 ((rd_T38 l0_4 x26_2).f3.f1), .int .i64 ((rd_T38 l0_4 x26_2).f3.f2)]] (by rfl) rfl rfl mt_ ?_
          with_reducible refine (impl_Fair_kidOk.calls a0_0 a0_1 a0_2 a0_3 _ _ l0_4 ((rd_T38 l0_4 x26_2).f0) ((rd_T38 l0_4 x26_2).f1) ((rd_T38 l0_4 x26_2).f2) ((rd_T38 l0_4 x26_2).f3.f0) ((rd_T38 l0_4 x26_2).f3.f1) ((rd_T38 l0_4 x26_2).f3.f2) false _ ?side1 ?side2 A24.out).mono ?_
          (case side1 => repeat (first | exact (Kd.C_below HR0_4.out HB.out) | (with_reducible refine Kd.C_alloc ?_ _) | (with_reducible refine Kd.C_drewN ?_ _) | (with_reducible refine Kd.C_drew ?_)))
          (case side2 => exact HC0_4.out)
          rintro e w54 ⟨rfl, hb⟩
          refine ⟨_, rfl, ?_⟩
          have n0_ := Aside0.mk (blk_below (g := gb215) (o := .cells #[.int .i64 a0_0, .int .i64 a0_1, .int .i64 a0_2, .int .i64 a0_3, .slice (some ad218) l0_4.length c0_4] 32 (0, 0)) (bk_ BK215) hb)
          have n1_ := Aside0.mk (blk_below (g := gb219) (o := .cells #[.int .i64 ((rd_T38 l0_4 x26_2).f0), .int .i64 ((rd_T38 l0_4 x26_2).f1), .bool ((rd_T38 l0_4 x26_2).f2), .int .i64 ((rd_T38 l0_4 x26_2).f3.f0), .int .i64 ((rd_T38 l0_4 x26_2).f3.f1), .int .i64 ((rd_T38 l0_4 x26_2).f3.f2)] 38 (0, 0)) (bk_ BK219) hb)
          have n2_ := Aside0.mk (below_step (by repeat (first | (with_reducible first | exact HB.out | apply below_alloc | apply pw_below_drewN | apply below_drew1 | refine below_set ?_ GE215.out | refine below_set ?_ GE219.out) | exact HB.out)) hb)
          clear BK215
          clear BK219
          clear HB
          have BK215 := n0_
          have BK219 := n1_
          have HB := n2_
          clear n0_ n1_ n2_
          (try clear hb)
          (try clear hb2)
          (try clear hk)
          (try clear hi)
          refine hK.out _ _ ⟨(blk_cell BK215.out 0).trans rfl, (blk_cell BK215.out 1).trans rfl, (blk_cell BK215.out 2).trans rfl, (blk_cell BK215.out 3).trans rfl, (blk_cell BK215.out 4).trans rfl, (blk_cell BK219.out 0).trans rfl, (blk_cell BK219.out 1).trans rfl, (blk_cell BK219.out 2).trans rfl, (blk_cell BK219.out 3).trans rfl, (blk_cell BK219.out 4).trans rfl, (blk_cell BK219.out 5).trans rfl⟩ (fun hHeld => ?_)
          clear hK K
          refine norm_ (a' := ?_) ?_ ?_
          rotate_left
          ·show Act.put _ (some 33) _ = _
           simp only [Act.put, List.setIfInBounds_toArray, List.set_cons_zero, List.set_cons_succ, i64_w, i32_w]
           rfl
          refine pure_s (i := 3) (N := some 34) (bs 20 4) (any_of HT_.out (by kernel_rfl)) (h := ?_)
          refine pure_s (i := 4) (N := some 35) (bs 20 5) (any_of HT_.out (by kernel_rfl)) (h := ?_)
          refine pure_u (i := 5) (N := some 36) (bs 20 6) (any_of HT_.out (by kernel_rfl)) (h := ?_)
          refine pure_u (i := 6) (N := some 37) (bs 20 7) (any_of HT_.out (by kernel_rfl)) (h := ?_)
          refine pure_u (i := 7) (N := some 38) (bs 20 8) (any_of HT_.out (by kernel_rfl)) (h := ?_)
          refine pure_u (i := 8) (N := some 39) (bs 20 9) (any_of HT_.out (by kernel_rfl)) (h := ?_)
          refine pure_u (i := 9) (N := some 40) (bs 20 10) (any_of HT_.out (by kernel_rfl)) (h := ?_)
          refine pure_u (i := 10) (N := some 41) (bs 20 11) (any_of HT_.out (by kernel_rfl)) (h := ?_)
          refine pure_u (i := 11) (N := some 42) (bs 20 12) (any_of HT_.out (by kernel_rfl)) (h := ?_)
          refine pure_u (i := 12) (N := some 43) (bs 20 13) (any_of HT_.out (by kernel_rfl)) (h := ?_)
          refine pure_u (i := 13) (N := some 44) (bs 20 14) (any_of HT_.out (by kernel_rfl)) (h := ?_)
          refine pure_u (i := 14) (N := some 45) (bs 20 15) (any_of HT_.out (by kernel_rfl)) (h := ?_)
          refine pure_u (i := 15) (N := some 46) (bs 20 16) (any_of HT_.out (by kernel_rfl)) (h := ?_)
          refine pure_u (i := 16) (N := some 47) (bs 20 17) (any_of HT_.out (by kernel_rfl)) (h := ?_)
          refine pure_u (i := 17) (N := some 48) (bs 20 18) (any_of HT_.out (by kernel_rfl)) (h := ?_)
          refine pure_u (i := 18) (N := some 49) (bs 20 19) (any_of HT_.out (by kernel_rfl)) (h := ?_)
          refine pure_s (i := 19) (N := some 50) (bs 20 20) (any_of HT_.out (by kernel_rfl)) (h := ?_)
          refine done_ (done_of HT_.out (by kernel_rfl)) ?_
          try go_wp2
          go_ret
          exact ⟨by first | rfl | (simp [errW_none, errW_some] <;> rfl) | (simp [*, errW_none, errW_some] <;> rfl), by repeat (first | (with_reducible first | exact HB.out | apply below_alloc | apply pw_below_drewN | apply below_drew1 | refine below_set ?_ GE215.out | refine below_set ?_ GE219.out) | exact HB.out)⟩
        ·rw [if_neg c23] at H
         exact absurd H (by simp)
       ·rw [if_neg c22] at H
        exact absurd H (by simp)
      ·rw [if_neg c21] at H
       have c21b0 : decide (x26_2 < (l0_4.length : Int)) = false := decide_eq_false c21
       clear c21
       obtain rfl := Option.some.inj H
       go_wp2
       go_ret
       exact ⟨by first | rfl | (simp [errW_none, errW_some] <;> rfl) | (simp [*, errW_none, errW_some] <;> rfl), by repeat (first | (with_reducible first | exact HB.out | apply below_alloc | apply pw_below_drewN | apply below_drew1 | refine below_set ?_ GE215.out) | exact HB.out)⟩

end Go.Proofs.Ytljhaoiopokmfaa.PFnExactFairRest
