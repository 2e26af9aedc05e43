-- printed by a program of this session (wip/printx) out of the translation; Lean checks it
import Derived.Test.YtbijdkmchdkgfaaPFnDovetailNarrowx0
import Derived.Test.YtbijdkmchdkgfaaPFnDovetailNarrowx1
import Derived.Test.YtbijdkmchdkgfaaPFnDovetailNarrowx2
import Derived.Test.YtbijdkmchdkgfaaPFnDovetailNarrowx3
import Derived.Test.YtbijdkmchdkgfaaPFnDovetailNarrowx4
import Derived.Test.YtbijdkmchdkgfaaPFnDovetailNarrowx5
namespace Go.Proofs.Ytbijdkmchdkgfaa.PFnDovetailNarrow
open Go.RowKit Go.Proofs.YtbijdkmchdkgfaaW.PrintWords Go.Proofs.YtbijdkmchdkgfaaW.PrintLast Go.Proofs.YtbijdkmchdkgfaaW.PrintMore
attribute [local go_sem] max2_int min2_int max_two min_two max_three min_three max_four min_four   -- for this text's walks alone
set_option linter.unusedVariables false
set_option linter.unusedSimpArgs false

attribute [local go_sem high] eqA35
/-! ### laws_FnDovetailNarrow: function 5 -/
def laws_FnDovetailNarrow.j0 : Nat → Int → Bool → Int → Int → Int → Int → Int → Int → Option (Bool)
  | 0, _, _, _, _, _, _, _, _ => none
  | k + 1, x4, x26, x241000, x241001, x241002, x245000, x245001, x245002 => if x26 = true then (some (x245000 == 0 && (x245001 == 0 && (x245002 == 0)))) else ((impl_Narrow.f x245000 x245001 x245002 x4).bind fun t246 => (if t246 = true then ((spec_Narrow.f x245000 x245001 x245002 x4).bind fun t247 => (if t247 = true then ((impl_VecTop.f x245000 x245001 x245002).bind fun t248 => ((spec_VecTop.f x241000 x241001 x241002).bind fun t249 => (if t248 = t249 then ((impl_Dovetail.f x245000 x245001 x245002 x4).bind fun bt250 => (if (bt250.1 == x245000 && (bt250.2.1 == x245001 && (bt250.2.2 == x245002))) = true then ((impl_VecMost.f x241000 x241001 x241002 x245000 x245001 x245002).bind fun bt253 => (some (bt253.1 == x245000 && (bt253.2.1 == x245001 && (bt253.2.2 == x245002))))) else (some false))) else (some false)))) else (some false))) else (some false)))
def laws_FnDovetailNarrow.f (k : Nat) (l0 : List Int) : Option (Bool) := (laws_big.f l0).bind fun t235 => (if t235 = true then (some true) else ((spec_DrawDovetail.f l0).bind fun bt236 => ((impl_Dovetail.f bt236.1 bt236.2.1 bt236.2.2.1 bt236.2.2.2).bind fun bt241 => ((spec_TagOk.f bt236.1 bt236.2.1 bt236.2.2.1).bind fun t245 => (if t245 = true then (if bt236.2.2.2 < 0 then (laws_FnDovetailNarrow.j0 k bt236.2.2.2 true bt236.1 bt236.2.1 bt236.2.2.1 bt241.1 bt241.2.1 bt241.2.2) else (laws_FnDovetailNarrow.j0 k bt236.2.2.2 (decide (bt236.2.2.2 > 10000000)) bt236.1 bt236.2.1 bt236.2.2.1 bt241.1 bt241.2.1 bt241.2.2)) else (laws_FnDovetailNarrow.j0 k bt236.2.2.2 true bt236.1 bt236.2.1 bt236.2.2.1 bt241.1 bt241.2.1 bt241.2.2))))))
theorem laws_FnDovetailNarrow.mono_l : ∀ k, (∀ y0 y1 y2 y3 y4 y5 y6 y7, LeO (laws_FnDovetailNarrow.j0 k y0 y1 y2 y3 y4 y5 y6 y7) (laws_FnDovetailNarrow.j0 (k + 1) y0 y1 y2 y3 y4 y5 y6 y7))
 | 0 => fun _ _ _ _ _ _ _ _ r h => by simp [laws_FnDovetailNarrow.j0] at h
 | k + 1 => by
  have ih0 := laws_FnDovetailNarrow.mono_l k
  ·intro y0 y1 y2 y3 y4 y5 y6 y7
   unfold laws_FnDovetailNarrow.j0
   repeat' first
   | (with_reducible exact ih0 _ _ _ _ _ _ _ _)
   | (with_reducible exact LeO.refl _)
   | (with_reducible exact LeO.none _)
   | (with_reducible refine LeO.ite ?_ ?_)
   | (with_reducible refine LeO.bind ?_ (fun _ => ?_))
   | exact ih0 _ _ _ _ _ _ _ _
   | exact LeO.none _
   | refine LeO.ite ?_ ?_
   | refine LeO.bind ?_ (fun _ => ?_)
theorem laws_FnDovetailNarrow.mono : ∀ a0 k, LeO (laws_FnDovetailNarrow.f k a0) (laws_FnDovetailNarrow.f (k + 1) a0) := by
 intro a0 k
 have ih0 := laws_FnDovetailNarrow.mono_l k
 unfold laws_FnDovetailNarrow.f
 repeat' first
   | (with_reducible exact ih0 _ _ _ _ _ _ _ _)
   | (with_reducible exact LeO.refl _)
   | (with_reducible exact LeO.none _)
   | (with_reducible refine LeO.ite ?_ ?_)
   | (with_reducible refine LeO.bind ?_ (fun _ => ?_))
   | exact ih0 _ _ _ _ _ _ _ _
   | exact LeO.none _
   | refine LeO.ite ?_ ?_
   | refine LeO.bind ?_ (fun _ => ?_)
def laws_FnDovetailNarrow.T7 : Bool × List (List Nat × List Nat) := (true, [([], []), ([], []), ([0, 1], [0, 1]), ([2, 2], [2]), ([3], [3]), ([3], [3]), ([4, 5, 3, 3], [3, 4, 5]), ([3, 6], [3, 6]), ([7, 6], [7]), ([8], [8]), ([9, 8, 8], [8, 9]), ([8], [8]), ([11, 10, 8], [8, 11]), ([10, 12, 8], [8, 10, 12]), ([8, 13], [8, 13]), ([14, 12], [14]), ([15], [15]), ([15], [15]), ([16, 17, 15, 15], [15, 16, 17]), ([15], [15]), ([18, 19, 15], [15, 18, 19]), ([15, 20], [15, 20]), ([21, 18], [21]), ([22], [22]), ([22], [22]), ([23, 24, 22, 22], [22, 23, 24]), ([22], [22]), ([25, 26, 22], [22, 25, 26]), ([22, 27], [22, 27]), ([28, 25, 0, 1, 2, 3, 4, 5, 6, 7, 8, 9, 10, 11, 12, 13, 14, 15, 16, 17, 18, 19, 20, 21, 22, 23, 24, 25, 26, 27, 28], [28])])
def laws_FnDovetailNarrow.B7 : List Nat := [0, 0, 3, 7, 15, 15, 63, 127, 255, 511, 1023, 511, 4095, 8191, 16383, 32767, 65535, 65535, 262143, 65535, 1048575, 2097151, 4194303, 8388607, 8388607, 33554431, 8388607, 134217727, 268435455, 536870911]
theorem laws_FnDovetailNarrow.tab7 : rtab .any (opsOf Try.f5 7) = laws_FnDovetailNarrow.T7 := by kernel_rfl
theorem laws_FnDovetailNarrow.bits7 : waitsOk laws_FnDovetailNarrow.T7.2 laws_FnDovetailNarrow.B7 = true := by kernel_rfl
set_option maxHeartbeats 8000000 in
set_option maxRecDepth 100000 in
theorem laws_FnDovetailNarrow.calls (k : Nat) (A0 : Option Addr) (c0 : Nat) (l0 : List Int) (r : Bool) (w : World) (hr0 : Kd.C (Kd.int .u8) w A0 l0.length l0) (hc0 : l0.length ≤ c0) (h : laws_FnDovetailNarrow.f k l0 = some r) :
  Calls Try.prog 5 #[.slice A0 l0.length c0] w fun e w' => e = .returned (.bool r) ∧ Below w.heap.size w w' := by
 have hu35 := Try.underlying35
 have HR0 := Aside0.mk hr0
 have HC0 := Aside0.mk hc0
 clear hr0 hc0
 have HB := Aside0.mk (Below.refl w.heap.size w)
 have H : ((laws_big.f l0).bind fun t235 => (if t235 = true then (some true) else ((spec_DrawDovetail.f l0).bind fun bt236 => ((impl_Dovetail.f bt236.1 bt236.2.1 bt236.2.2.1 bt236.2.2.2).bind fun bt241 => ((spec_TagOk.f bt236.1 bt236.2.1 bt236.2.2.1).bind fun t245 => (if t245 = true then (if bt236.2.2.2 < 0 then (laws_FnDovetailNarrow.j0 k bt236.2.2.2 true bt236.1 bt236.2.1 bt236.2.2.1 bt241.1 bt241.2.1 bt241.2.2) else (laws_FnDovetailNarrow.j0 k bt236.2.2.2 (decide (bt236.2.2.2 > 10000000)) bt236.1 bt236.2.1 bt236.2.2.1 bt241.1 bt241.2.1 bt241.2.2)) else (laws_FnDovetailNarrow.j0 k bt236.2.2.2 true bt236.1 bt236.2.1 bt236.2.2.1 bt241.1 bt241.2.1 bt241.2.2))))))) = some r := h
 clear h
 replace H := Option.bind_eq_some_iff.mp H
 obtain ⟨t235, A20, H⟩ := H
 replace H : (if t235 = true then (some true) else ((spec_DrawDovetail.f l0).bind fun bt236 => ((impl_Dovetail.f bt236.1 bt236.2.1 bt236.2.2.1 bt236.2.2.2).bind fun bt241 => ((spec_TagOk.f bt236.1 bt236.2.1 bt236.2.2.1).bind fun t245 => (if t245 = true then (if bt236.2.2.2 < 0 then (laws_FnDovetailNarrow.j0 k bt236.2.2.2 true bt236.1 bt236.2.1 bt236.2.2.1 bt241.1 bt241.2.1 bt241.2.2) else (laws_FnDovetailNarrow.j0 k bt236.2.2.2 (decide (bt236.2.2.2 > 10000000)) bt236.1 bt236.2.1 bt236.2.2.1 bt241.1 bt241.2.1 bt241.2.2)) else (laws_FnDovetailNarrow.j0 k bt236.2.2.2 true bt236.1 bt236.2.1 bt236.2.2.1 bt241.1 bt241.2.1 bt241.2.2)))))) = some r := H
 have A2 := Aside0.mk A20
 clear A20
 by_cases c3 : t235 = true
 ·subst c3
  have H1 : (some true) = some r := by rw [if_pos rfl] at H; exact H
  clear H
  have H := H1
  clear H1
  obtain rfl := Option.some.inj H
  go_enter Try.func5, Try.ntmps5
  go_wp2_with (first | ((with_reducible refine gate_callee (f := 18) rfl ?_); refine goesL_ (some 7) rfl rfl Try.func18 (by kernel_rfl) rfl #[.slice A0 l0.length c0] rfl mt_ ?_; (with_reducible refine (laws_big.calls _ _ l0 true _ ?side1 ?side2 A2.out).mono ?_); (case side1 => repeat (first | exact HR0.out | (with_reducible refine Kd.C_alloc ?_ _) | (with_reducible refine Kd.C_drewN ?_ _) | (with_reducible refine Kd.C_drew ?_))); (case side2 => exact HC0.out); rintro e w' ⟨rfl, ⟨nd, rfl⟩⟩; refine ⟨_, rfl, ?_⟩))
  go_ret
  exact ⟨by first | rfl | (simp [errW_none, errW_some] <;> rfl) | (simp [*, errW_none, errW_some] <;> rfl), be_ HB⟩
 ·replace c3 := Bool.eq_false_iff.mpr c3
  subst c3
  have H1 : ((spec_DrawDovetail.f l0).bind fun bt236 => ((impl_Dovetail.f bt236.1 bt236.2.1 bt236.2.2.1 bt236.2.2.2).bind fun bt241 => ((spec_TagOk.f bt236.1 bt236.2.1 bt236.2.2.1).bind fun t245 => (if t245 = true then (if bt236.2.2.2 < 0 then (laws_FnDovetailNarrow.j0 k bt236.2.2.2 true bt236.1 bt236.2.1 bt236.2.2.1 bt241.1 bt241.2.1 bt241.2.2) else (laws_FnDovetailNarrow.j0 k bt236.2.2.2 (decide (bt236.2.2.2 > 10000000)) bt236.1 bt236.2.1 bt236.2.2.1 bt241.1 bt241.2.1 bt241.2.2)) else (laws_FnDovetailNarrow.j0 k bt236.2.2.2 true bt236.1 bt236.2.1 bt236.2.2.1 bt241.1 bt241.2.1 bt241.2.2))))) = some r := by rw [if_neg (show ¬ (false = true) by decide)] at H; exact H
  clear H
  have H := H1
  clear H1
  replace H := Option.bind_eq_some_iff.mp H
  obtain ⟨⟨t236, t237, t238, t239⟩, A40, H⟩ := H
  replace H : ((impl_Dovetail.f t236 t237 t238 t239).bind fun bt241 => ((spec_TagOk.f t236 t237 t238).bind fun t245 => (if t245 = true then (if t239 < 0 then (laws_FnDovetailNarrow.j0 k t239 true t236 t237 t238 bt241.1 bt241.2.1 bt241.2.2) else (laws_FnDovetailNarrow.j0 k t239 (decide (t239 > 10000000)) t236 t237 t238 bt241.1 bt241.2.1 bt241.2.2)) else (laws_FnDovetailNarrow.j0 k t239 true t236 t237 t238 bt241.1 bt241.2.1 bt241.2.2)))) = some r := H
  have A4 := Aside0.mk A40
  clear A40
  replace H := Option.bind_eq_some_iff.mp H
  obtain ⟨⟨t241, t242, t243⟩, A50, H⟩ := H
  replace H : ((spec_TagOk.f t236 t237 t238).bind fun t245 => (if t245 = true then (if t239 < 0 then (laws_FnDovetailNarrow.j0 k t239 true t236 t237 t238 t241 t242 t243) else (laws_FnDovetailNarrow.j0 k t239 (decide (t239 > 10000000)) t236 t237 t238 t241 t242 t243)) else (laws_FnDovetailNarrow.j0 k t239 true t236 t237 t238 t241 t242 t243))) = some r := H
  have A5 := Aside0.mk A50
  clear A50
  have HC6 := Aside0.mk H
  clear H
  go_enter Try.func5, Try.ntmps5
  go_upto_region 5 with (first | ((with_reducible refine gate_callee (f := 18) rfl ?_); refine goesL_ (some 7) rfl rfl Try.func18 (by kernel_rfl) rfl #[.slice A0 l0.length c0] rfl mt_ ?_; (with_reducible refine (laws_big.calls _ _ l0 false _ ?side1 ?side2 A2.out).mono ?_); (case side1 => repeat (first | exact HR0.out | (with_reducible refine Kd.C_alloc ?_ _) | (with_reducible refine Kd.C_drewN ?_ _) | (with_reducible refine Kd.C_drew ?_))); (case side2 => exact HC0.out); rintro e w' ⟨rfl, ⟨nd, rfl⟩⟩; refine ⟨_, rfl, ?_⟩) | ((with_reducible refine gate_callee (f := 23) rfl ?_); refine goesL_ (some 10) rfl rfl Try.func23 (by kernel_rfl) rfl #[.slice A0 l0.length c0] rfl mt_ ?_; (with_reducible refine (spec_DrawDovetail.calls _ _ l0 t236 t237 t238 t239 _ ?side1 ?side2 A4.out).mono ?_); (case side1 => repeat (first | exact HR0.out | (with_reducible refine Kd.C_alloc ?_ _) | (with_reducible refine Kd.C_drewN ?_ _) | (with_reducible refine Kd.C_drew ?_))); (case side2 => exact HC0.out); rintro e w7 ⟨rfl, hb⟩; refine ⟨_, rfl, ?_⟩; have n0_ := Aside0.mk (below_step (be_ HB) hb); clear HB; have HB := n0_; clear n0_; (try clear hb); (try clear hb2); (try clear hk); (try clear hi)) | ((with_reducible refine gate_dst (N := 3) rfl ?_); refine box_event ?hg (N := 3) ?hd (cs := #[.int .i64 0, .int .i64 0, .int .i64 0]) (t := 35) ?hr ?_; (case hd => rfl); (case hg => rfl); (case hr => first | (go_simp; done) | (go_simp; rfl)); intro gb240 hg w8 hbox hb; have n0_ := Aside0.mk (below_step (be_ HB) hb); have n1_ := Aside0.mk (hbox); have n2_ := Aside0.mk ((by rw [hg]; exact (below_size (be_ HB)) : w.heap.size ≤ gb240)); have n3_ := Aside0.mk ((by rw [hg]; exact (below_size (be_ HB)) : w.heap.size ≤ gb240)); clear HB; have HB := n0_; have BK240 := n1_; have GW240 := n2_; have GE240 := n3_; clear n0_ n1_ n2_ n3_; clear hb hbox hg; have hcz9_0 : w8.cell? ⟨gb240, 0, none⟩ = some (.int .i64 0) := (blk_cell BK240.out 0).trans rfl; have hcz9_1 : w8.cell? ⟨gb240, 1, none⟩ = some (.int .i64 0) := (blk_cell BK240.out 1).trans rfl; have hcz9_2 : w8.cell? ⟨gb240, 2, none⟩ = some (.int .i64 0) := (blk_cell BK240.out 2).trans rfl; have hfz9_0 := blk_frozen BK240.out 0; have hfz9_1 := blk_frozen BK240.out 1; have hfz9_2 := blk_frozen BK240.out 2) | ((with_reducible refine gate_callee (f := 24) rfl ?_); refine goesL_ (some 15) rfl rfl Try.func24 (by kernel_rfl) rfl #[.agg #[.int .i64 t236, .int .i64 t237, .int .i64 t238], .int .i64 t239] rfl mt_ ?_; (with_reducible refine (impl_Dovetail.calls t236 t237 t238 t239 t241 t242 t243 _ A5.out).mono ?_); rintro e w10 ⟨rfl, hb⟩; refine ⟨_, rfl, ?_⟩; have n0_ := Aside0.mk (blk_below (g := gb240) (o := .cells #[.int .i64 t236, .int .i64 t237, .int .i64 t238] 35 (0, 0)) (by (with_reducible repeat (first | refine blk_drewN ?_ _ | refine blk_drew ?_ | refine blk_alloc ?_ _)); refine blk_put (cs := #[.int .i64 t236, .int .i64 t237, .int .i64 0]) ?_ 2 _ rfl; (with_reducible repeat (first | refine blk_drewN ?_ _ | refine blk_drew ?_ | refine blk_alloc ?_ _)); refine blk_put (cs := #[.int .i64 t236, .int .i64 0, .int .i64 0]) ?_ 1 _ rfl; (with_reducible repeat (first | refine blk_drewN ?_ _ | refine blk_drew ?_ | refine blk_alloc ?_ _)); refine blk_put (cs := #[.int .i64 0, .int .i64 0, .int .i64 0]) ?_ 0 _ rfl; exact bk_ BK240) hb); have n1_ := Aside0.mk (below_step (by repeat (first | (with_reducible first | exact HB.out | apply below_alloc | apply pw_below_drewN | apply below_drew1 | refine below_set ?_ GE240.out) | exact HB.out)) hb); clear BK240; clear HB; have BK240 := n0_; have HB := n1_; clear n0_ n1_; (try clear hb); (try clear hb2); (try clear hk); (try clear hi)) | ((with_reducible refine gate_dst (N := 5) rfl ?_); refine box_event ?hg (N := 5) ?hd (cs := #[.int .i64 0, .int .i64 0, .int .i64 0]) (t := 35) ?hr ?_; (case hd => rfl); (case hg => rfl); (case hr => first | (go_simp; done) | (go_simp; rfl)); intro gb244 hg w11 hbox hb; have n0_ := Aside0.mk (blk_below (g := gb240) (o := .cells #[.int .i64 t236, .int .i64 t237, .int .i64 t238] 35 (0, 0)) (bk_ BK240) hb); have n1_ := Aside0.mk (below_step (by repeat (first | (with_reducible first | exact HB.out | apply below_alloc | apply pw_below_drewN | apply below_drew1 | refine below_set ?_ GE240.out) | exact HB.out)) hb); have n2_ := Aside0.mk (hbox); have n3_ := Aside0.mk ((by rw [hg]; exact (below_size (by repeat (first | (with_reducible first | exact HB.out | apply below_alloc | apply pw_below_drewN | apply below_drew1 | refine below_set ?_ GE240.out) | exact HB.out))) : w.heap.size ≤ gb244)); have n4_ := Aside0.mk ((by rw [hg]; exact (below_size (by repeat (first | (with_reducible first | exact HB.out | apply below_alloc | apply pw_below_drewN | apply below_drew1 | refine below_set ?_ GE240.out) | exact HB.out))) : w.heap.size ≤ gb244)); have n5_ := Aside0.mk ((by rw [hg]; exact Nat.ne_of_lt (blk_lt (g := gb240) (o := .cells #[.int .i64 t236, .int .i64 t237, .int .i64 t238] 35 (0, 0)) (bk_ BK240)) : gb240 ≠ gb244)); have n6_ := Aside0.mk ((by rw [hg]; exact Nat.ne_of_gt (blk_lt (g := gb240) (o := .cells #[.int .i64 t236, .int .i64 t237, .int .i64 t238] 35 (0, 0)) (bk_ BK240)) : gb244 ≠ gb240)); clear BK240; clear HB; have BK240 := n0_; have HB := n1_; have BK244 := n2_; have GW244 := n3_; have GE244 := n4_; have NB240_244 := n5_; have NB244_240 := n6_; clear n0_ n1_ n2_ n3_ n4_ n5_ n6_; clear hb hbox hg; have hnb12 := NB244_240.out; have hnc12 := NB240_244.out; have hcz13_0 : w11.cell? ⟨gb244, 0, none⟩ = some (.int .i64 0) := (blk_cell BK244.out 0).trans rfl; have hcz13_1 : w11.cell? ⟨gb244, 1, none⟩ = some (.int .i64 0) := (blk_cell BK244.out 1).trans rfl; have hcz13_2 : w11.cell? ⟨gb244, 2, none⟩ = some (.int .i64 0) := (blk_cell BK244.out 2).trans rfl; have hfz13_0 := blk_frozen BK244.out 0; have hfz13_1 := blk_frozen BK244.out 1; have hfz13_2 := blk_frozen BK244.out 2))
  (try simp only [Act.put, List.setIfInBounds_toArray, List.set_cons_zero, List.set_cons_succ])
  go_cut [26] (fun v26 wc => ∃ (kq : Nat) (x26_5 : Bool), v26 = .bool x26_5 ∧ Aside0 (laws_FnDovetailNarrow.j0 kq t239 x26_5 t236 t237 t238 t241 t242 t243 = some r) ∧ Aside0 (kq ≤ k) ∧ Aside0 (wc.heap[gb240]? = some (.cells #[.int .i64 t236, .int .i64 t237, .int .i64 t238] 35 (0, 0))) ∧ Aside0 (wc.heap[gb244]? = some (.cells #[.int .i64 t241, .int .i64 t242, .int .i64 t243] 35 (0, 0))) ∧ Aside0 (Below w.heap.size w wc))
  case first =>
   have H := HC6.out
   clear HC6
   replace H := Option.bind_eq_some_iff.mp H
   obtain ⟨t245, A140, H⟩ := H
   replace H : (if t245 = true then (if t239 < 0 then (laws_FnDovetailNarrow.j0 k t239 true t236 t237 t238 t241 t242 t243) else (laws_FnDovetailNarrow.j0 k t239 (decide (t239 > 10000000)) t236 t237 t238 t241 t242 t243)) else (laws_FnDovetailNarrow.j0 k t239 true t236 t237 t238 t241 t242 t243)) = some r := H
   have A14 := Aside0.mk A140
   clear A140
   by_cases c15 : t245 = true
   ·subst c15
    have H1 : (if t239 < 0 then (laws_FnDovetailNarrow.j0 k t239 true t236 t237 t238 t241 t242 t243) else (laws_FnDovetailNarrow.j0 k t239 (decide (t239 > 10000000)) t236 t237 t238 t241 t242 t243)) = some r := by rw [if_pos rfl] at H; exact H
    clear H
    have H := H1
    clear H1
    by_cases c16 : t239 < 0
    ·rw [if_pos c16] at H
     have c16b0 : decide (t239 < 0) = true := decide_eq_true c16
     clear c16
     (first | rw [c16b0] | (simp only [i64_w, i32_w]; rw [c16b0]) | skip)
     have H' := Aside0.mk H
     clear H
     have hnb17 := NB240_244.out
     have hnc17 := NB244_240.out
     have hcz18_0 : w11.cell? ⟨gb240, 0, none⟩ = some (.int .i64 t236) := (blk_cell BK240.out 0).trans rfl
     have hcz18_1 : w11.cell? ⟨gb240, 1, none⟩ = some (.int .i64 t237) := (blk_cell BK240.out 1).trans rfl
     have hcz18_2 : w11.cell? ⟨gb240, 2, none⟩ = some (.int .i64 t238) := (blk_cell BK240.out 2).trans rfl
     have hfz18_0 := blk_frozen BK240.out 0
     have hfz18_1 := blk_frozen BK240.out 1
     have hfz18_2 := blk_frozen BK240.out 2
     go_wp2_with (first | ((with_reducible refine gate_callee (f := 25) rfl ?_); refine goesL_ (some 17) rfl rfl Try.func25 (by kernel_rfl) rfl #[.agg #[.int .i64 t236, .int .i64 t237, .int .i64 t238]] rfl mt_ ?_; (with_reducible refine (spec_TagOk.calls t236 t237 t238 true _ A14.out).mono ?_); rintro e w19 ⟨rfl, hb⟩; refine ⟨_, rfl, ?_⟩; have n0_ := Aside0.mk (blk_below (g := gb240) (o := .cells #[.int .i64 t236, .int .i64 t237, .int .i64 t238] 35 (0, 0)) (by (with_reducible repeat (first | refine blk_drewN ?_ _ | refine blk_drew ?_ | refine blk_alloc ?_ _)); refine blk_far ?_ NB240_244.out _; (with_reducible repeat (first | refine blk_drewN ?_ _ | refine blk_drew ?_ | refine blk_alloc ?_ _)); refine blk_far ?_ NB240_244.out _; (with_reducible repeat (first | refine blk_drewN ?_ _ | refine blk_drew ?_ | refine blk_alloc ?_ _)); refine blk_far ?_ NB240_244.out _; exact bk_ BK240) hb); have n1_ := Aside0.mk (blk_below (g := gb244) (o := .cells #[.int .i64 t241, .int .i64 t242, .int .i64 t243] 35 (0, 0)) (by (with_reducible repeat (first | refine blk_drewN ?_ _ | refine blk_drew ?_ | refine blk_alloc ?_ _)); refine blk_put (cs := #[.int .i64 t241, .int .i64 t242, .int .i64 0]) ?_ 2 _ rfl; (with_reducible repeat (first | refine blk_drewN ?_ _ | refine blk_drew ?_ | refine blk_alloc ?_ _)); refine blk_put (cs := #[.int .i64 t241, .int .i64 0, .int .i64 0]) ?_ 1 _ rfl; (with_reducible repeat (first | refine blk_drewN ?_ _ | refine blk_drew ?_ | refine blk_alloc ?_ _)); refine blk_put (cs := #[.int .i64 0, .int .i64 0, .int .i64 0]) ?_ 0 _ rfl; exact bk_ BK244) hb); have n2_ := Aside0.mk (below_step (by repeat (first | (with_reducible first | exact HB.out | apply below_alloc | apply pw_below_drewN | apply below_drew1 | refine below_set ?_ GE240.out | refine below_set ?_ GE244.out) | exact HB.out)) hb); clear BK240; clear BK244; clear HB; have BK240 := n0_; have BK244 := n1_; have HB := n2_; clear n0_ n1_ n2_; (try clear hb); (try clear hb2); (try clear hk); (try clear hi)))
     go_meet
     case rel => exact ⟨_, (true), (by first | rfl | (simp; done) | (simp [*]; done)), H', ⟨by first | omega | exact Nat.le_refl _⟩, ⟨bk_ BK240⟩, ⟨bk_ BK244⟩, ⟨by repeat (first | (with_reducible first | exact HB.out | apply below_alloc | apply pw_below_drewN | apply below_drew1 | refine below_set ?_ GE240.out | refine below_set ?_ GE244.out) | exact HB.out)⟩⟩
    ·rw [if_neg c16] at H
     have c16b0 : decide (t239 < 0) = false := decide_eq_false c16
     clear c16
     (first | rw [c16b0] | (simp only [i64_w, i32_w]; rw [c16b0]) | skip)
     have H' := Aside0.mk H
     clear H
     have hnb20 := NB240_244.out
     have hnc20 := NB244_240.out
     have hcz21_0 : w11.cell? ⟨gb240, 0, none⟩ = some (.int .i64 t236) := (blk_cell BK240.out 0).trans rfl
     have hcz21_1 : w11.cell? ⟨gb240, 1, none⟩ = some (.int .i64 t237) := (blk_cell BK240.out 1).trans rfl
     have hcz21_2 : w11.cell? ⟨gb240, 2, none⟩ = some (.int .i64 t238) := (blk_cell BK240.out 2).trans rfl
     have hfz21_0 := blk_frozen BK240.out 0
     have hfz21_1 := blk_frozen BK240.out 1
     have hfz21_2 := blk_frozen BK240.out 2
     go_wp2_with (first | ((with_reducible refine gate_callee (f := 25) rfl ?_); refine goesL_ (some 17) rfl rfl Try.func25 (by kernel_rfl) rfl #[.agg #[.int .i64 t236, .int .i64 t237, .int .i64 t238]] rfl mt_ ?_; (with_reducible refine (spec_TagOk.calls t236 t237 t238 true _ A14.out).mono ?_); rintro e w22 ⟨rfl, hb⟩; refine ⟨_, rfl, ?_⟩; have n0_ := Aside0.mk (blk_below (g := gb240) (o := .cells #[.int .i64 t236, .int .i64 t237, .int .i64 t238] 35 (0, 0)) (by (with_reducible repeat (first | refine blk_drewN ?_ _ | refine blk_drew ?_ | refine blk_alloc ?_ _)); refine blk_far ?_ NB240_244.out _; (with_reducible repeat (first | refine blk_drewN ?_ _ | refine blk_drew ?_ | refine blk_alloc ?_ _)); refine blk_far ?_ NB240_244.out _; (with_reducible repeat (first | refine blk_drewN ?_ _ | refine blk_drew ?_ | refine blk_alloc ?_ _)); refine blk_far ?_ NB240_244.out _; exact bk_ BK240) hb); have n1_ := Aside0.mk (blk_below (g := gb244) (o := .cells #[.int .i64 t241, .int .i64 t242, .int .i64 t243] 35 (0, 0)) (by (with_reducible repeat (first | refine blk_drewN ?_ _ | refine blk_drew ?_ | refine blk_alloc ?_ _)); refine blk_put (cs := #[.int .i64 t241, .int .i64 t242, .int .i64 0]) ?_ 2 _ rfl; (with_reducible repeat (first | refine blk_drewN ?_ _ | refine blk_drew ?_ | refine blk_alloc ?_ _)); refine blk_put (cs := #[.int .i64 t241, .int .i64 0, .int .i64 0]) ?_ 1 _ rfl; (with_reducible repeat (first | refine blk_drewN ?_ _ | refine blk_drew ?_ | refine blk_alloc ?_ _)); refine blk_put (cs := #[.int .i64 0, .int .i64 0, .int .i64 0]) ?_ 0 _ rfl; exact bk_ BK244) hb); have n2_ := Aside0.mk (below_step (by repeat (first | (with_reducible first | exact HB.out | apply below_alloc | apply pw_below_drewN | apply below_drew1 | refine below_set ?_ GE240.out | refine below_set ?_ GE244.out) | exact HB.out)) hb); clear BK240; clear BK244; clear HB; have BK240 := n0_; have BK244 := n1_; have HB := n2_; clear n0_ n1_ n2_; (try clear hb); (try clear hb2); (try clear hk); (try clear hi)))
     go_meet
     case rel => exact ⟨_, (decide (t239 > 10000000)), (by first | rfl | (simp; done) | (simp [*]; done)), H', ⟨by first | omega | exact Nat.le_refl _⟩, ⟨bk_ BK240⟩, ⟨bk_ BK244⟩, ⟨by repeat (first | (with_reducible first | exact HB.out | apply below_alloc | apply pw_below_drewN | apply below_drew1 | refine below_set ?_ GE240.out | refine below_set ?_ GE244.out) | exact HB.out)⟩⟩
   ·replace c15 := Bool.eq_false_iff.mpr c15
    subst c15
    have H1 : (laws_FnDovetailNarrow.j0 k t239 true t236 t237 t238 t241 t242 t243) = some r := by rw [if_neg (show ¬ (false = true) by decide)] at H; exact H
    clear H
    have H := H1
    clear H1
    have H' := Aside0.mk H
    clear H
    have hnb23 := NB240_244.out
    have hnc23 := NB244_240.out
    have hcz24_0 : w11.cell? ⟨gb240, 0, none⟩ = some (.int .i64 t236) := (blk_cell BK240.out 0).trans rfl
    have hcz24_1 : w11.cell? ⟨gb240, 1, none⟩ = some (.int .i64 t237) := (blk_cell BK240.out 1).trans rfl
    have hcz24_2 : w11.cell? ⟨gb240, 2, none⟩ = some (.int .i64 t238) := (blk_cell BK240.out 2).trans rfl
    have hfz24_0 := blk_frozen BK240.out 0
    have hfz24_1 := blk_frozen BK240.out 1
    have hfz24_2 := blk_frozen BK240.out 2
    go_wp2_with (first | ((with_reducible refine gate_callee (f := 25) rfl ?_); refine goesL_ (some 17) rfl rfl Try.func25 (by kernel_rfl) rfl #[.agg #[.int .i64 t236, .int .i64 t237, .int .i64 t238]] rfl mt_ ?_; (with_reducible refine (spec_TagOk.calls t236 t237 t238 false _ A14.out).mono ?_); rintro e w25 ⟨rfl, hb⟩; refine ⟨_, rfl, ?_⟩; have n0_ := Aside0.mk (blk_below (g := gb240) (o := .cells #[.int .i64 t236, .int .i64 t237, .int .i64 t238] 35 (0, 0)) (by (with_reducible repeat (first | refine blk_drewN ?_ _ | refine blk_drew ?_ | refine blk_alloc ?_ _)); refine blk_far ?_ NB240_244.out _; (with_reducible repeat (first | refine blk_drewN ?_ _ | refine blk_drew ?_ | refine blk_alloc ?_ _)); refine blk_far ?_ NB240_244.out _; (with_reducible repeat (first | refine blk_drewN ?_ _ | refine blk_drew ?_ | refine blk_alloc ?_ _)); refine blk_far ?_ NB240_244.out _; exact bk_ BK240) hb); have n1_ := Aside0.mk (blk_below (g := gb244) (o := .cells #[.int .i64 t241, .int .i64 t242, .int .i64 t243] 35 (0, 0)) (by (with_reducible repeat (first | refine blk_drewN ?_ _ | refine blk_drew ?_ | refine blk_alloc ?_ _)); refine blk_put (cs := #[.int .i64 t241, .int .i64 t242, .int .i64 0]) ?_ 2 _ rfl; (with_reducible repeat (first | refine blk_drewN ?_ _ | refine blk_drew ?_ | refine blk_alloc ?_ _)); refine blk_put (cs := #[.int .i64 t241, .int .i64 0, .int .i64 0]) ?_ 1 _ rfl; (with_reducible repeat (first | refine blk_drewN ?_ _ | refine blk_drew ?_ | refine blk_alloc ?_ _)); refine blk_put (cs := #[.int .i64 0, .int .i64 0, .int .i64 0]) ?_ 0 _ rfl; exact bk_ BK244) hb); have n2_ := Aside0.mk (below_step (by repeat (first | (with_reducible first | exact HB.out | apply below_alloc | apply pw_below_drewN | apply below_drew1 | refine below_set ?_ GE240.out | refine below_set ?_ GE244.out) | exact HB.out)) hb); clear BK240; clear BK244; clear HB; have BK240 := n0_; have BK244 := n1_; have HB := n2_; clear n0_ n1_ n2_; (try clear hb); (try clear hb2); (try clear hk); (try clear hi)))
    go_meet
    case rel => exact ⟨_, (true), (by first | rfl | (simp; done) | (simp [*]; done)), H', ⟨by first | omega | exact Nat.le_refl _⟩, ⟨bk_ BK240⟩, ⟨bk_ BK244⟩, ⟨by repeat (first | (with_reducible first | exact HB.out | apply below_alloc | apply pw_below_drewN | apply below_drew1 | refine below_set ?_ GE240.out | refine below_set ?_ GE244.out) | exact HB.out)⟩⟩
  case rest =>
   clear HC6
   try clear c1
   try clear c2
   try clear p2
   try clear c3
   try clear c5
   try clear c12
   try clear c15
   try clear c16
   try clear c16b0
   try clear c17
   try clear c18
   try clear c20
   try clear c23
   try clear c24
   try clear c25
   try clear hcz13_0
   try clear hcz13_1
   try clear hcz13_2
   try clear hcz18_0
   try clear hcz18_1
   try clear hcz18_2
   try clear hcz21_0
   try clear hcz21_1
   try clear hcz21_2
   try clear hcz24_0
   try clear hcz24_1
   try clear hcz24_2
   try clear hcz9_0
   try clear hcz9_1
   try clear hcz9_2
   try clear hfz13_0
   try clear hfz13_1
   try clear hfz13_2
   try clear hfz18_0
   try clear hfz18_1
   try clear hfz18_2
   try clear hfz21_0
   try clear hfz21_1
   try clear hfz21_2
   try clear hfz24_0
   try clear hfz24_1
   try clear hfz24_2
   try clear hfz9_0
   try clear hfz9_1
   try clear hfz9_2
   obtain ⟨kq, x26_5, rfl, HA, HJ5, BK240, BK244, HB⟩ := hcut
   cases kq with
   | zero => exact absurd HA.out (by simp [laws_FnDovetailNarrow.j0])
   | succ kj5 =>
    have H := HA.out
    clear HA
    simp only [laws_FnDovetailNarrow.j0] at H
    by_cases c26 : x26_5 = true
    ·subst c26
     have H1 : (some (t241 == 0 && (t242 == 0 && (t243 == 0)))) = some r := by rw [if_pos rfl] at H; exact H
     clear H
     have H := H1
     clear H1
     obtain rfl := Option.some.inj H
     have hnb27 := NB244_240.out
     have hnc27 := NB240_244.out
     have hcz28_0 : wc.cell? ⟨gb244, 0, none⟩ = some (.int .i64 t241) := (blk_cell BK244.out 0).trans rfl
     have hcz28_1 : wc.cell? ⟨gb244, 1, none⟩ = some (.int .i64 t242) := (blk_cell BK244.out 1).trans rfl
     have hcz28_2 : wc.cell? ⟨gb244, 2, none⟩ = some (.int .i64 t243) := (blk_cell BK244.out 2).trans rfl
     have hfz28_0 := blk_frozen BK244.out 0
     have hfz28_1 := blk_frozen BK244.out 1
     have hfz28_2 := blk_frozen BK244.out 2
     go_wp2
     go_ret
     exact ⟨by first | rfl | (simp [errW_none, errW_some] <;> rfl) | (simp [*, errW_none, errW_some] <;> rfl), by repeat (first | (with_reducible first | exact HB.out | apply below_alloc | apply pw_below_drewN | apply below_drew1 | refine below_set ?_ GE240.out | refine below_set ?_ GE244.out) | exact HB.out)⟩
    ·replace c26 := Bool.eq_false_iff.mpr c26
     subst c26
     have H1 : ((impl_Narrow.f t241 t242 t243 t239).bind fun t246 => (if t246 = true then ((spec_Narrow.f t241 t242 t243 t239).bind fun t247 => (if t247 = true then ((impl_VecTop.f t241 t242 t243).bind fun t248 => ((spec_VecTop.f t236 t237 t238).bind fun t249 => (if t248 = t249 then ((impl_Dovetail.f t241 t242 t243 t239).bind fun bt250 => (if (bt250.1 == t241 && (bt250.2.1 == t242 && (bt250.2.2 == t243))) = true then ((impl_VecMost.f t236 t237 t238 t241 t242 t243).bind fun bt253 => (some (bt253.1 == t241 && (bt253.2.1 == t242 && (bt253.2.2 == t243))))) else (some false))) else (some false)))) else (some false))) else (some false))) = some r := by rw [if_neg (show ¬ (false = true) by decide)] at H; exact H
     clear H
     have H := H1
     clear H1
     replace H := Option.bind_eq_some_iff.mp H
     obtain ⟨t246, A290, H⟩ := H
     replace H : (if t246 = true then ((spec_Narrow.f t241 t242 t243 t239).bind fun t247 => (if t247 = true then ((impl_VecTop.f t241 t242 t243).bind fun t248 => ((spec_VecTop.f t236 t237 t238).bind fun t249 => (if t248 = t249 then ((impl_Dovetail.f t241 t242 t243 t239).bind fun bt250 => (if (bt250.1 == t241 && (bt250.2.1 == t242 && (bt250.2.2 == t243))) = true then ((impl_VecMost.f t236 t237 t238 t241 t242 t243).bind fun bt253 => (some (bt253.1 == t241 && (bt253.2.1 == t242 && (bt253.2.2 == t243))))) else (some false))) else (some false)))) else (some false))) else (some false)) = some r := H
     have A29 := Aside0.mk A290
     clear A290
     by_cases c30 : t246 = true
     ·subst c30
      have H1 : ((spec_Narrow.f t241 t242 t243 t239).bind fun t247 => (if t247 = true then ((impl_VecTop.f t241 t242 t243).bind fun t248 => ((spec_VecTop.f t236 t237 t238).bind fun t249 => (if t248 = t249 then ((impl_Dovetail.f t241 t242 t243 t239).bind fun bt250 => (if (bt250.1 == t241 && (bt250.2.1 == t242 && (bt250.2.2 == t243))) = true then ((impl_VecMost.f t236 t237 t238 t241 t242 t243).bind fun bt253 => (some (bt253.1 == t241 && (bt253.2.1 == t242 && (bt253.2.2 == t243))))) else (some false))) else (some false)))) else (some false))) = some r := by rw [if_pos rfl] at H; exact H
      clear H
      have H := H1
      clear H1
      replace H := Option.bind_eq_some_iff.mp H
      obtain ⟨t247, A310, H⟩ := H
      replace H : (if t247 = true then ((impl_VecTop.f t241 t242 t243).bind fun t248 => ((spec_VecTop.f t236 t237 t238).bind fun t249 => (if t248 = t249 then ((impl_Dovetail.f t241 t242 t243 t239).bind fun bt250 => (if (bt250.1 == t241 && (bt250.2.1 == t242 && (bt250.2.2 == t243))) = true then ((impl_VecMost.f t236 t237 t238 t241 t242 t243).bind fun bt253 => (some (bt253.1 == t241 && (bt253.2.1 == t242 && (bt253.2.2 == t243))))) else (some false))) else (some false)))) else (some false)) = some r := H
      have A31 := Aside0.mk A310
      clear A310
      by_cases c32 : t247 = true
      ·subst c32
       have H1 : ((impl_VecTop.f t241 t242 t243).bind fun t248 => ((spec_VecTop.f t236 t237 t238).bind fun t249 => (if t248 = t249 then ((impl_Dovetail.f t241 t242 t243 t239).bind fun bt250 => (if (bt250.1 == t241 && (bt250.2.1 == t242 && (bt250.2.2 == t243))) = true then ((impl_VecMost.f t236 t237 t238 t241 t242 t243).bind fun bt253 => (some (bt253.1 == t241 && (bt253.2.1 == t242 && (bt253.2.2 == t243))))) else (some false))) else (some false)))) = some r := by rw [if_pos rfl] at H; exact H
       clear H
       have H := H1
       clear H1
       replace H := Option.bind_eq_some_iff.mp H
       obtain ⟨t248, A330, H⟩ := H
       replace H : ((spec_VecTop.f t236 t237 t238).bind fun t249 => (if t248 = t249 then ((impl_Dovetail.f t241 t242 t243 t239).bind fun bt250 => (if (bt250.1 == t241 && (bt250.2.1 == t242 && (bt250.2.2 == t243))) = true then ((impl_VecMost.f t236 t237 t238 t241 t242 t243).bind fun bt253 => (some (bt253.1 == t241 && (bt253.2.1 == t242 && (bt253.2.2 == t243))))) else (some false))) else (some false))) = some r := H
       have A33 := Aside0.mk A330
       clear A330
       replace H := Option.bind_eq_some_iff.mp H
       obtain ⟨t249, A340, H⟩ := H
       replace H : (if t248 = t249 then ((impl_Dovetail.f t241 t242 t243 t239).bind fun bt250 => (if (bt250.1 == t241 && (bt250.2.1 == t242 && (bt250.2.2 == t243))) = true then ((impl_VecMost.f t236 t237 t238 t241 t242 t243).bind fun bt253 => (some (bt253.1 == t241 && (bt253.2.1 == t242 && (bt253.2.2 == t243))))) else (some false))) else (some false)) = some r := H
       have A34 := Aside0.mk A340
       clear A340
       by_cases c35 : t248 = t249
       ·rw [if_pos c35] at H
        have c35b0 : (t248 == t249) = true := beq_iff_eq.mpr c35
        have c35b1 : (t248 != t249) = false := bne_eq_false_iff_eq.mpr c35
        clear c35
        replace H := Option.bind_eq_some_iff.mp H
        obtain ⟨⟨t250, t251, t252⟩, A360, H⟩ := H
        replace H : (if (t250 == t241 && (t251 == t242 && (t252 == t243))) = true then ((impl_VecMost.f t236 t237 t238 t241 t242 t243).bind fun bt253 => (some (bt253.1 == t241 && (bt253.2.1 == t242 && (bt253.2.2 == t243))))) else (some false)) = some r := H
        have A36 := Aside0.mk A360
        clear A360
        by_cases c37 : (t250 == t241 && (t251 == t242 && (t252 == t243))) = true
        ·rw [if_pos c37] at H
         have c37b0 : (t250 == t241 && (t251 == t242 && (t252 == t243))) = true := c37
         (try (have c37b1 : decide (t250 = t241 && (t251 == t242 && (t252 == t243))) = true := by simpa using c37))
         (try (have c37b2 : (t250 == t241 && (t251 == t242 && (t252 == t243))) = true := by simpa using c37))
         clear c37
         replace H := Option.bind_eq_some_iff.mp H
         obtain ⟨⟨t253, t254, t255⟩, A380, H⟩ := H
         replace H : (some (t253 == t241 && (t254 == t242 && (t255 == t243)))) = some r := H
         have A38 := Aside0.mk A380
         clear A380
         obtain rfl := Option.some.inj H
         try go_wp2
         have n0_ := Aside0.mk (blk_drew BK240.out)
         have n1_ := Aside0.mk (blk_drew BK244.out)
         have n2_ := Aside0.mk (below_drew1 HB.out)
         clear BK240
         clear BK244
         clear HB
         have BK240 := n0_
         have BK244 := n1_
         have HB := n2_
         clear n0_ n1_ n2_
         refine start_ (n := 30) (S := fun w' => w'.cell? ⟨gb244, 0, none⟩ = some (.int .i64 t241) ∧ w'.cell? ⟨gb244, 1, none⟩ = some (.int .i64 t242) ∧ w'.cell? ⟨gb244, 2, none⟩ = some (.int .i64 t243) ∧ w'.cell? ⟨gb240, 0, none⟩ = some (.int .i64 t236) ∧ w'.cell? ⟨gb240, 1, none⟩ = some (.int .i64 t237) ∧ w'.cell? ⟨gb240, 2, none⟩ = some (.int .i64 t238)) (ds := []) (bs 30 0) (by kernel_rfl) rfl rfl ⟨(blk_cell BK244.out 0).trans rfl, (blk_cell BK244.out 1).trans rfl, (blk_cell BK244.out 2).trans rfl, (blk_cell BK240.out 0).trans rfl, (blk_cell BK240.out 1).trans rfl, (blk_cell BK240.out 2).trans rfl⟩ (fun hHeld => ?_); refine with_tabW laws_FnDovetailNarrow.tab7 laws_FnDovetailNarrow.bits7 (fun HT_ HW_ => ?_)
         generalize wc.drew = w39 at BK240 BK244 HB hHeld ⊢
         refine pure_s (i := 1) (N := some 31) #[oF,oT,oF,oF,oF,oF,oF,oF,oF,oF,oF,oF,oF,oF,oF,oF,oF,oF,oF,oF,oF,oF,oF,oF,oF,oF,oF,oF,oF,oF] (any_of HT_.out (by kernel_rfl)) (h := ?_)
         refine take_ (i := 0) (N := some 30) (v := ?_) (a' := ?_) (bs 30 2) rfl rfl (take_ofW HT_.out HW_.out (by kernel_rfl)) (fun _ _ _ h => h) (Or.inl ⟨by rfl, ?_⟩) hHeld ?_ ?_
         rotate_left
         ·rintro w' ⟨s0, s1, s2, s3, s4, s5⟩
          go_simp
          with_reducible rfl
         rotate_left
         ·simp only [Act.put, List.setIfInBounds_toArray, List.set_cons_zero, List.set_cons_succ, i64_w, i32_w]
          rfl
         refine one_ (i := 2) (N := some 32) (bs 30 3) rfl rfl (one_of HT_.out (by kernel_rfl)) (by decide) (fun K hK => ?_)
         refine goes_ Try.func26 (by kernel_rfl) rfl #[.agg #[.int .i64 t241, .int .i64 t242, .int .i64 t243], .int .i64 t239] (by rfl) rfl rfl mt_ ?_
         with_reducible refine (impl_Narrow.calls t241 t242 t243 t239 true _ A29.out).mono ?_
         rintro e w40 ⟨rfl, hb⟩
         refine ⟨_, rfl, ?_⟩
         have n0_ := Aside0.mk (blk_below (g := gb240) (o := .cells #[.int .i64 t236, .int .i64 t237, .int .i64 t238] 35 (0, 0)) (bk_ BK240) hb)
         have n1_ := Aside0.mk (blk_below (g := gb244) (o := .cells #[.int .i64 t241, .int .i64 t242, .int .i64 t243] 35 (0, 0)) (bk_ BK244) hb)
         have n2_ := Aside0.mk (below_step (by repeat (first | (with_reducible first | exact HB.out | apply below_alloc | apply pw_below_drewN | apply below_drew1 | refine below_set ?_ GE240.out | refine below_set ?_ GE244.out) | exact HB.out)) hb)
         clear BK240
         clear BK244
         clear HB
         have BK240 := n0_
         have BK244 := n1_
         have HB := n2_
         clear n0_ n1_ n2_
         (try clear hb)
         (try clear hb2)
         (try clear hk)
         (try clear hi)
         refine hK.out _ _ ⟨(blk_cell BK244.out 0).trans rfl, (blk_cell BK244.out 1).trans rfl, (blk_cell BK244.out 2).trans rfl, (blk_cell BK240.out 0).trans rfl, (blk_cell BK240.out 1).trans rfl, (blk_cell BK240.out 2).trans rfl⟩ (fun hHeld => ?_)
         clear hK K
         refine norm_ (a' := ?_) ?_ ?_
         rotate_left
         ·show Act.put _ (some 32) _ = _
          simp only [Act.put, List.setIfInBounds_toArray, List.set_cons_zero, List.set_cons_succ, i64_w, i32_w]
          rfl
         refine pure_s (i := 3) (N := some 33) (bs 30 4) (any_of HT_.out (by kernel_rfl)) (h := ?_)
         refine pure_s (i := 5) (N := some 35) #[oT,oT,oT,oT,oF,oT,oF,oF,oF,oF,oF,oF,oF,oF,oF,oF,oF,oF,oF,oF,oF,oF,oF,oF,oF,oF,oF,oF,oF,oF] (any_of HT_.out (by kernel_rfl)) (h := ?_)
         refine take_ (i := 4) (N := some 34) (v := ?_) (a' := ?_) (bs 30 6) rfl rfl (take_ofW HT_.out HW_.out (by kernel_rfl)) (fun _ _ _ h => h) (Or.inl ⟨by rfl, ?_⟩) hHeld ?_ ?_
         rotate_left
         ·rintro w' ⟨s0, s1, s2, s3, s4, s5⟩
          go_simp
          with_reducible rfl
         rotate_left
         ·simp only [Act.put, List.setIfInBounds_toArray, List.set_cons_zero, List.set_cons_succ, i64_w, i32_w]
          rfl
         refine one_ (i := 6) (N := some 36) (bs 30 7) rfl rfl (one_of HT_.out (by kernel_rfl)) (by decide) (fun K hK => ?_)
         refine goes_ Try.func27 (by kernel_rfl) rfl #[.agg #[.int .i64 t241, .int .i64 t242, .int .i64 t243], .int .i64 t239] (by rfl) rfl rfl mt_ ?_
         with_reducible refine (spec_Narrow.calls t241 t242 t243 t239 true _ A31.out).mono ?_
         rintro e w41 ⟨rfl, hb⟩
         refine ⟨_, rfl, ?_⟩
         have n0_ := Aside0.mk (blk_below (g := gb240) (o := .cells #[.int .i64 t236, .int .i64 t237, .int .i64 t238] 35 (0, 0)) (bk_ BK240) hb)
         have n1_ := Aside0.mk (blk_below (g := gb244) (o := .cells #[.int .i64 t241, .int .i64 t242, .int .i64 t243] 35 (0, 0)) (bk_ BK244) hb)
         have n2_ := Aside0.mk (below_step (by repeat (first | (with_reducible first | exact HB.out | apply below_alloc | apply pw_below_drewN | apply below_drew1 | refine below_set ?_ GE240.out | refine below_set ?_ GE244.out) | exact HB.out)) hb)
         clear BK240
         clear BK244
         clear HB
         have BK240 := n0_
         have BK244 := n1_
         have HB := n2_
         clear n0_ n1_ n2_
         (try clear hb)
         (try clear hb2)
         (try clear hk)
         (try clear hi)
         refine hK.out _ _ ⟨(blk_cell BK244.out 0).trans rfl, (blk_cell BK244.out 1).trans rfl, (blk_cell BK244.out 2).trans rfl, (blk_cell BK240.out 0).trans rfl, (blk_cell BK240.out 1).trans rfl, (blk_cell BK240.out 2).trans rfl⟩ (fun hHeld => ?_)
         clear hK K
         refine norm_ (a' := ?_) ?_ ?_
         rotate_left
         ·show Act.put _ (some 36) _ = _
          simp only [Act.put, List.setIfInBounds_toArray, List.set_cons_zero, List.set_cons_succ, i64_w, i32_w]
          rfl
         refine pure_s (i := 7) (N := some 37) (bs 30 8) (any_of HT_.out (by kernel_rfl)) (h := ?_)
         refine pure_s (i := 8) (N := some 38) (bs 30 9) (any_of HT_.out (by kernel_rfl)) (h := ?_)
         refine take_ (i := 9) (N := some 39) (v := ?_) (a' := ?_) (bs 30 10) rfl rfl (take_ofW HT_.out HW_.out (by kernel_rfl)) (fun _ _ _ h => h) (Or.inl ⟨by rfl, ?_⟩) hHeld ?_ ?_
         rotate_left
         ·rintro w' ⟨s0, s1, s2, s3, s4, s5⟩
          go_simp
          with_reducible rfl
         rotate_left
         ·simp only [Act.put, List.setIfInBounds_toArray, List.set_cons_zero, List.set_cons_succ, i64_w, i32_w]
          rfl
         refine take_ (i := 11) (N := some 41) (v := ?_) (a' := ?_) #[oT,oT,oT,oT,oT,oT,oT,oT,oT,oT,oF,oT,oF,oF,oF,oF,oF,oF,oF,oF,oF,oF,oF,oF,oF,oF,oF,oF,oF,oF] rfl rfl (take_ofW HT_.out HW_.out (by kernel_rfl)) (fun _ _ _ h => h) (Or.inl ⟨by rfl, ?_⟩) hHeld ?_ ?_
         rotate_left
         ·rintro w' ⟨s0, s1, s2, s3, s4, s5⟩
          go_simp
          with_reducible rfl
         rotate_left
         ·simp only [Act.put, List.setIfInBounds_toArray, List.set_cons_zero, List.set_cons_succ, i64_w, i32_w]
          rfl
         refine one_ (i := 10) (N := some 40) (bs 30 12) rfl rfl (one_of HT_.out (by kernel_rfl)) (by decide) (fun K hK => ?_)
         refine goes_ Try.func28 (by kernel_rfl) rfl #[.agg #[.int .i64 t241, .int .i64 t242, .int .i64 t243]] (by rfl) rfl rfl mt_ ?_
         with_reducible refine (impl_VecTop.calls t241 t242 t243 t248 _ A33.out).mono ?_
         rintro e w42 ⟨rfl, hb⟩
         refine ⟨_, rfl, ?_⟩
         have n0_ := Aside0.mk (blk_below (g := gb240) (o := .cells #[.int .i64 t236, .int .i64 t237, .int .i64 t238] 35 (0, 0)) (bk_ BK240) hb)
         have n1_ := Aside0.mk (blk_below (g := gb244) (o := .cells #[.int .i64 t241, .int .i64 t242, .int .i64 t243] 35 (0, 0)) (bk_ BK244) hb)
         have n2_ := Aside0.mk (below_step (by repeat (first | (with_reducible first | exact HB.out | apply below_alloc | apply pw_below_drewN | apply below_drew1 | refine below_set ?_ GE240.out | refine below_set ?_ GE244.out) | exact HB.out)) hb)
         clear BK240
         clear BK244
         clear HB
         have BK240 := n0_
         have BK244 := n1_
         have HB := n2_
         clear n0_ n1_ n2_
         (try clear hb)
         (try clear hb2)
         (try clear hk)
         (try clear hi)
         refine hK.out _ _ ⟨(blk_cell BK244.out 0).trans rfl, (blk_cell BK244.out 1).trans rfl, (blk_cell BK244.out 2).trans rfl, (blk_cell BK240.out 0).trans rfl, (blk_cell BK240.out 1).trans rfl, (blk_cell BK240.out 2).trans rfl⟩ (fun hHeld => ?_)
         clear hK K
         refine norm_ (a' := ?_) ?_ ?_
         rotate_left
         ·show Act.put _ (some 40) _ = _
          simp only [Act.put, List.setIfInBounds_toArray, List.set_cons_zero, List.set_cons_succ, i64_w, i32_w]
          rfl
         refine one_ (i := 12) (N := some 42) (bs 30 13) rfl rfl (one_of HT_.out (by kernel_rfl)) (by decide) (fun K hK => ?_)
         refine goes_ Try.func29 (by kernel_rfl) rfl #[.agg #[.int .i64 t236, .int .i64 t237, .int .i64 t238]] (by rfl) rfl rfl mt_ ?_
         with_reducible refine (spec_VecTop.calls t236 t237 t238 t249 _ A34.out).mono ?_
         rintro e w43 ⟨rfl, hb⟩
         refine ⟨_, rfl, ?_⟩
         have n0_ := Aside0.mk (blk_below (g := gb240) (o := .cells #[.int .i64 t236, .int .i64 t237, .int .i64 t238] 35 (0, 0)) (bk_ BK240) hb)
         have n1_ := Aside0.mk (blk_below (g := gb244) (o := .cells #[.int .i64 t241, .int .i64 t242, .int .i64 t243] 35 (0, 0)) (bk_ BK244) hb)
         have n2_ := Aside0.mk (below_step (by repeat (first | (with_reducible first | exact HB.out | apply below_alloc | apply pw_below_drewN | apply below_drew1 | refine below_set ?_ GE240.out | refine below_set ?_ GE244.out) | exact HB.out)) hb)
         clear BK240
         clear BK244
         clear HB
         have BK240 := n0_
         have BK244 := n1_
         have HB := n2_
         clear n0_ n1_ n2_
         (try clear hb)
         (try clear hb2)
         (try clear hk)
         (try clear hi)
         refine hK.out _ _ ⟨(blk_cell BK244.out 0).trans rfl, (blk_cell BK244.out 1).trans rfl, (blk_cell BK244.out 2).trans rfl, (blk_cell BK240.out 0).trans rfl, (blk_cell BK240.out 1).trans rfl, (blk_cell BK240.out 2).trans rfl⟩ (fun hHeld => ?_)
         clear hK K
         refine norm_ (a' := ?_) ?_ ?_
         rotate_left
         ·show Act.put _ (some 42) _ = _
          simp only [Act.put, List.setIfInBounds_toArray, List.set_cons_zero, List.set_cons_succ, i64_w, i32_w]
          rfl
         refine pure_s (i := 13) (N := some 43) (bs 30 14) (any_of HT_.out (by kernel_rfl)) (h := ?_)
         refine pure_s (i := 14) (N := some 44) (bs 30 15) (any_of HT_.out (by kernel_rfl)) (h := ?_)
         refine pure_s (i := 15) (N := some 45) (bs 30 16) (any_of HT_.out (by kernel_rfl)) (h := ?_)
         refine pure_s (i := 17) (N := some 47) #[oT,oT,oT,oT,oT,oT,oT,oT,oT,oT,oT,oT,oT,oT,oT,oT,oF,oT,oF,oF,oF,oF,oF,oF,oF,oF,oF,oF,oF,oF] (any_of HT_.out (by kernel_rfl)) (h := ?_)
         refine take_ (i := 16) (N := some 46) (v := ?_) (a' := ?_) (bs 30 18) rfl rfl (take_ofW HT_.out HW_.out (by kernel_rfl)) (fun _ _ _ h => h) (Or.inl ⟨by rfl, ?_⟩) hHeld ?_ ?_
         rotate_left
         ·rintro w' ⟨s0, s1, s2, s3, s4, s5⟩
          go_simp
          with_reducible rfl
         rotate_left
         ·simp only [Act.put, List.setIfInBounds_toArray, List.set_cons_zero, List.set_cons_succ, i64_w, i32_w]
          rfl
         refine take_ (i := 19) (N := some 49) (v := ?_) (a' := ?_) #[oT,oT,oT,oT,oT,oT,oT,oT,oT,oT,oT,oT,oT,oT,oT,oT,oT,oT,oF,oT,oF,oF,oF,oF,oF,oF,oF,oF,oF,oF] rfl rfl (take_ofW HT_.out HW_.out (by kernel_rfl)) (fun _ _ _ h => h) (Or.inl ⟨by rfl, ?_⟩) hHeld ?_ ?_
         rotate_left
         ·rintro w' ⟨s0, s1, s2, s3, s4, s5⟩
          go_simp
          with_reducible rfl
         rotate_left
         ·simp only [Act.put, List.setIfInBounds_toArray, List.set_cons_zero, List.set_cons_succ, i64_w, i32_w]
          rfl
         refine one_ (i := 18) (N := some 48) (bs 30 20) rfl rfl (one_of HT_.out (by kernel_rfl)) (by decide) (fun K hK => ?_)
         refine goes_ Try.func24 (by kernel_rfl) rfl #[.agg #[.int .i64 t241, .int .i64 t242, .int .i64 t243], .int .i64 t239] (by rfl) rfl rfl mt_ ?_
         with_reducible refine (impl_Dovetail.calls t241 t242 t243 t239 t250 t251 t252 _ A36.out).mono ?_
         rintro e w44 ⟨rfl, hb⟩
         refine ⟨_, rfl, ?_⟩
         have n0_ := Aside0.mk (blk_below (g := gb240) (o := .cells #[.int .i64 t236, .int .i64 t237, .int .i64 t238] 35 (0, 0)) (bk_ BK240) hb)
         have n1_ := Aside0.mk (blk_below (g := gb244) (o := .cells #[.int .i64 t241, .int .i64 t242, .int .i64 t243] 35 (0, 0)) (bk_ BK244) hb)
         have n2_ := Aside0.mk (below_step (by repeat (first | (with_reducible first | exact HB.out | apply below_alloc | apply pw_below_drewN | apply below_drew1 | refine below_set ?_ GE240.out | refine below_set ?_ GE244.out) | exact HB.out)) hb)
         clear BK240
         clear BK244
         clear HB
         have BK240 := n0_
         have BK244 := n1_
         have HB := n2_
         clear n0_ n1_ n2_
         (try clear hb)
         (try clear hb2)
         (try clear hk)
         (try clear hi)
         refine hK.out _ _ ⟨(blk_cell BK244.out 0).trans rfl, (blk_cell BK244.out 1).trans rfl, (blk_cell BK244.out 2).trans rfl, (blk_cell BK240.out 0).trans rfl, (blk_cell BK240.out 1).trans rfl, (blk_cell BK240.out 2).trans rfl⟩ (fun hHeld => ?_)
         clear hK K
         refine norm_ (a' := ?_) ?_ ?_
         rotate_left
         ·show Act.put _ (some 48) _ = _
          simp only [Act.put, List.setIfInBounds_toArray, List.set_cons_zero, List.set_cons_succ, i64_w, i32_w]
          rfl
         refine pure_s (i := 20) (N := some 50) (bs 30 21) (any_of HT_.out (by kernel_rfl)) (h := ?_)
         refine pure_s (i := 21) (N := some 51) (bs 30 22) (any_of HT_.out (by kernel_rfl)) (h := ?_)
         refine pure_s (i := 22) (N := some 52) (bs 30 23) (any_of HT_.out (by kernel_rfl)) (h := ?_)
         refine take_ (i := 23) (N := some 53) (v := ?_) (a' := ?_) (bs 30 24) rfl rfl (take_ofW HT_.out HW_.out (by kernel_rfl)) (fun _ _ _ h => h) (Or.inl ⟨by rfl, ?_⟩) hHeld ?_ ?_
         rotate_left
         ·rintro w' ⟨s0, s1, s2, s3, s4, s5⟩
          go_simp
          with_reducible rfl
         rotate_left
         ·simp only [Act.put, List.setIfInBounds_toArray, List.set_cons_zero, List.set_cons_succ, i64_w, i32_w]
          rfl
         refine take_ (i := 24) (N := some 54) (v := ?_) (a' := ?_) (bs 30 25) rfl rfl (take_ofW HT_.out HW_.out (by kernel_rfl)) (fun _ _ _ h => h) (Or.inl ⟨by rfl, ?_⟩) hHeld ?_ ?_
         rotate_left
         ·rintro w' ⟨s0, s1, s2, s3, s4, s5⟩
          go_simp
          with_reducible rfl
         rotate_left
         ·simp only [Act.put, List.setIfInBounds_toArray, List.set_cons_zero, List.set_cons_succ, i64_w, i32_w]
          rfl
         refine take_ (i := 26) (N := some 56) (v := ?_) (a' := ?_) #[oT,oT,oT,oT,oT,oT,oT,oT,oT,oT,oT,oT,oT,oT,oT,oT,oT,oT,oT,oT,oT,oT,oT,oT,oT,oF,oT,oF,oF,oF] rfl rfl (take_ofW HT_.out HW_.out (by kernel_rfl)) (fun _ _ _ h => h) (Or.inl ⟨by rfl, ?_⟩) hHeld ?_ ?_
         rotate_left
         ·rintro w' ⟨s0, s1, s2, s3, s4, s5⟩
          go_simp
          with_reducible rfl
         rotate_left
         ·simp only [Act.put, List.setIfInBounds_toArray, List.set_cons_zero, List.set_cons_succ, i64_w, i32_w]
          rfl
         refine one_ (i := 25) (N := some 55) (bs 30 27) rfl rfl (one_of HT_.out (by kernel_rfl)) (by decide) (fun K hK => ?_)
         refine goes_ Try.func30 (by kernel_rfl) rfl #[.agg #[.int .i64 t236, .int .i64 t237, .int .i64 t238], .agg #[.int .i64 t241, .int .i64 t242, .int .i64 t243]] (by rfl) rfl rfl mt_ ?_
         with_reducible refine (impl_VecMost.calls t236 t237 t238 t241 t242 t243 t253 t254 t255 _ A38.out).mono ?_
         rintro e w45 ⟨rfl, hb⟩
         refine ⟨_, rfl, ?_⟩
         have n0_ := Aside0.mk (blk_below (g := gb240) (o := .cells #[.int .i64 t236, .int .i64 t237, .int .i64 t238] 35 (0, 0)) (bk_ BK240) hb)
         have n1_ := Aside0.mk (blk_below (g := gb244) (o := .cells #[.int .i64 t241, .int .i64 t242, .int .i64 t243] 35 (0, 0)) (bk_ BK244) hb)
         have n2_ := Aside0.mk (below_step (by repeat (first | (with_reducible first | exact HB.out | apply below_alloc | apply pw_below_drewN | apply below_drew1 | refine below_set ?_ GE240.out | refine below_set ?_ GE244.out) | exact HB.out)) hb)
         clear BK240
         clear BK244
         clear HB
         have BK240 := n0_
         have BK244 := n1_
         have HB := n2_
         clear n0_ n1_ n2_
         (try clear hb)
         (try clear hb2)
         (try clear hk)
         (try clear hi)
         refine hK.out _ _ ⟨(blk_cell BK244.out 0).trans rfl, (blk_cell BK244.out 1).trans rfl, (blk_cell BK244.out 2).trans rfl, (blk_cell BK240.out 0).trans rfl, (blk_cell BK240.out 1).trans rfl, (blk_cell BK240.out 2).trans rfl⟩ (fun hHeld => ?_)
         clear hK K
         refine norm_ (a' := ?_) ?_ ?_
         rotate_left
         ·show Act.put _ (some 55) _ = _
          simp only [Act.put, List.setIfInBounds_toArray, List.set_cons_zero, List.set_cons_succ, i64_w, i32_w]
          rfl
         refine pure_s (i := 27) (N := some 57) (bs 30 28) (any_of HT_.out (by kernel_rfl)) (h := ?_)
         refine pure_s (i := 28) (N := some 58) (bs 30 29) (any_of HT_.out (by kernel_rfl)) (h := ?_)
         refine pure_s (i := 29) (N := some 2) (bs 30 30) (any_of HT_.out (by kernel_rfl)) (h := ?_)
         refine done_ (done_of HT_.out (by kernel_rfl)) ?_
         try go_wp2
         go_ret
         exact ⟨by first | rfl | (simp [errW_none, errW_some] <;> rfl) | (simp [*, errW_none, errW_some] <;> rfl), by repeat (first | (with_reducible first | exact HB.out | apply below_alloc | apply pw_below_drewN | apply below_drew1 | refine below_set ?_ GE240.out | refine below_set ?_ GE244.out) | exact HB.out)⟩
        ·rw [if_neg c37] at H
         have c37b0 : (t250 == t241 && (t251 == t242 && (t252 == t243))) = false := by simpa using c37
         (try (have c37b1 : decide (t250 = t241 && (t251 == t242 && (t252 == t243))) = false := by simpa using c37))
         (try (have c37b2 : (t250 == t241 && (t251 == t242 && (t252 == t243))) = false := by simpa using c37))
         (try (have c37b3 : ¬ (t250 = t241 && (t251 == t242 && (t252 == t243))) := by simpa using c37))
         clear c37
         obtain rfl := Option.some.inj H
         try go_wp2
         have n0_ := Aside0.mk (blk_drew BK240.out)
         have n1_ := Aside0.mk (blk_drew BK244.out)
         have n2_ := Aside0.mk (below_drew1 HB.out)
         clear BK240
         clear BK244
         clear HB
         have BK240 := n0_
         have BK244 := n1_
         have HB := n2_
         clear n0_ n1_ n2_
         refine start_ (n := 30) (S := fun w' => w'.cell? ⟨gb244, 0, none⟩ = some (.int .i64 t241) ∧ w'.cell? ⟨gb244, 1, none⟩ = some (.int .i64 t242) ∧ w'.cell? ⟨gb244, 2, none⟩ = some (.int .i64 t243) ∧ w'.cell? ⟨gb240, 0, none⟩ = some (.int .i64 t236) ∧ w'.cell? ⟨gb240, 1, none⟩ = some (.int .i64 t237) ∧ w'.cell? ⟨gb240, 2, none⟩ = some (.int .i64 t238)) (ds := []) (bs 30 0) (by kernel_rfl) rfl rfl ⟨(blk_cell BK244.out 0).trans rfl, (blk_cell BK244.out 1).trans rfl, (blk_cell BK244.out 2).trans rfl, (blk_cell BK240.out 0).trans rfl, (blk_cell BK240.out 1).trans rfl, (blk_cell BK240.out 2).trans rfl⟩ (fun hHeld => ?_); refine with_tabW laws_FnDovetailNarrow.tab7 laws_FnDovetailNarrow.bits7 (fun HT_ HW_ => ?_)
         generalize wc.drew = w46 at BK240 BK244 HB hHeld ⊢
         refine pure_s (i := 1) (N := some 31) #[oF,oT,oF,oF,oF,oF,oF,oF,oF,oF,oF,oF,oF,oF,oF,oF,oF,oF,oF,oF,oF,oF,oF,oF,oF,oF,oF,oF,oF,oF] (any_of HT_.out (by kernel_rfl)) (h := ?_)
         refine take_ (i := 0) (N := some 30) (v := ?_) (a' := ?_) (bs 30 2) rfl rfl (take_ofW HT_.out HW_.out (by kernel_rfl)) (fun _ _ _ h => h) (Or.inl ⟨by rfl, ?_⟩) hHeld ?_ ?_
         rotate_left
         ·rintro w' ⟨s0, s1, s2, s3, s4, s5⟩
          go_simp
          with_reducible rfl
         rotate_left
         ·simp only [Act.put, List.setIfInBounds_toArray, List.set_cons_zero, List.set_cons_succ, i64_w, i32_w]
          rfl
         refine one_ (i := 2) (N := some 32) (bs 30 3) rfl rfl (one_of HT_.out (by kernel_rfl)) (by decide) (fun K hK => ?_)
         refine goes_ Try.func26 (by kernel_rfl) rfl #[.agg #[.int .i64 t241, .int .i64 t242, .int .i64 t243], .int .i64 t239] (by rfl) rfl rfl mt_ ?_
         with_reducible refine (impl_Narrow.calls t241 t242 t243 t239 true _ A29.out).mono ?_
         rintro e w47 ⟨rfl, hb⟩
         refine ⟨_, rfl, ?_⟩
         have n0_ := Aside0.mk (blk_below (g := gb240) (o := .cells #[.int .i64 t236, .int .i64 t237, .int .i64 t238] 35 (0, 0)) (bk_ BK240) hb)
         have n1_ := Aside0.mk (blk_below (g := gb244) (o := .cells #[.int .i64 t241, .int .i64 t242, .int .i64 t243] 35 (0, 0)) (bk_ BK244) hb)
         have n2_ := Aside0.mk (below_step (by repeat (first | (with_reducible first | exact HB.out | apply below_alloc | apply pw_below_drewN | apply below_drew1 | refine below_set ?_ GE240.out | refine below_set ?_ GE244.out) | exact HB.out)) hb)
         clear BK240
         clear BK244
         clear HB
         have BK240 := n0_
         have BK244 := n1_
         have HB := n2_
         clear n0_ n1_ n2_
         (try clear hb)
         (try clear hb2)
         (try clear hk)
         (try clear hi)
         refine hK.out _ _ ⟨(blk_cell BK244.out 0).trans rfl, (blk_cell BK244.out 1).trans rfl, (blk_cell BK244.out 2).trans rfl, (blk_cell BK240.out 0).trans rfl, (blk_cell BK240.out 1).trans rfl, (blk_cell BK240.out 2).trans rfl⟩ (fun hHeld => ?_)
         clear hK K
         refine norm_ (a' := ?_) ?_ ?_
         rotate_left
         ·show Act.put _ (some 32) _ = _
          simp only [Act.put, List.setIfInBounds_toArray, List.set_cons_zero, List.set_cons_succ, i64_w, i32_w]
          rfl
         refine pure_s (i := 3) (N := some 33) (bs 30 4) (any_of HT_.out (by kernel_rfl)) (h := ?_)
         refine pure_s (i := 5) (N := some 35) #[oT,oT,oT,oT,oF,oT,oF,oF,oF,oF,oF,oF,oF,oF,oF,oF,oF,oF,oF,oF,oF,oF,oF,oF,oF,oF,oF,oF,oF,oF] (any_of HT_.out (by kernel_rfl)) (h := ?_)
         refine take_ (i := 4) (N := some 34) (v := ?_) (a' := ?_) (bs 30 6) rfl rfl (take_ofW HT_.out HW_.out (by kernel_rfl)) (fun _ _ _ h => h) (Or.inl ⟨by rfl, ?_⟩) hHeld ?_ ?_
         rotate_left
         ·rintro w' ⟨s0, s1, s2, s3, s4, s5⟩
          go_simp
          with_reducible rfl
         rotate_left
         ·simp only [Act.put, List.setIfInBounds_toArray, List.set_cons_zero, List.set_cons_succ, i64_w, i32_w]
          rfl
         refine one_ (i := 6) (N := some 36) (bs 30 7) rfl rfl (one_of HT_.out (by kernel_rfl)) (by decide) (fun K hK => ?_)
         refine goes_ Try.func27 (by kernel_rfl) rfl #[.agg #[.int .i64 t241, .int .i64 t242, .int .i64 t243], .int .i64 t239] (by rfl) rfl rfl mt_ ?_
         with_reducible refine (spec_Narrow.calls t241 t242 t243 t239 true _ A31.out).mono ?_
         rintro e w48 ⟨rfl, hb⟩
         refine ⟨_, rfl, ?_⟩
         have n0_ := Aside0.mk (blk_below (g := gb240) (o := .cells #[.int .i64 t236, .int .i64 t237, .int .i64 t238] 35 (0, 0)) (bk_ BK240) hb)
         have n1_ := Aside0.mk (blk_below (g := gb244) (o := .cells #[.int .i64 t241, .int .i64 t242, .int .i64 t243] 35 (0, 0)) (bk_ BK244) hb)
         have n2_ := Aside0.mk (below_step (by repeat (first | (with_reducible first | exact HB.out | apply below_alloc | apply pw_below_drewN | apply below_drew1 | refine below_set ?_ GE240.out | refine below_set ?_ GE244.out) | exact HB.out)) hb)
         clear BK240
         clear BK244
         clear HB
         have BK240 := n0_
         have BK244 := n1_
         have HB := n2_
         clear n0_ n1_ n2_
         (try clear hb)
         (try clear hb2)
         (try clear hk)
         (try clear hi)
         refine hK.out _ _ ⟨(blk_cell BK244.out 0).trans rfl, (blk_cell BK244.out 1).trans rfl, (blk_cell BK244.out 2).trans rfl, (blk_cell BK240.out 0).trans rfl, (blk_cell BK240.out 1).trans rfl, (blk_cell BK240.out 2).trans rfl⟩ (fun hHeld => ?_)
         clear hK K
         refine norm_ (a' := ?_) ?_ ?_
         rotate_left
         ·show Act.put _ (some 36) _ = _
          simp only [Act.put, List.setIfInBounds_toArray, List.set_cons_zero, List.set_cons_succ, i64_w, i32_w]
          rfl
         refine pure_s (i := 7) (N := some 37) (bs 30 8) (any_of HT_.out (by kernel_rfl)) (h := ?_)
         refine pure_s (i := 8) (N := some 38) (bs 30 9) (any_of HT_.out (by kernel_rfl)) (h := ?_)
         refine take_ (i := 9) (N := some 39) (v := ?_) (a' := ?_) (bs 30 10) rfl rfl (take_ofW HT_.out HW_.out (by kernel_rfl)) (fun _ _ _ h => h) (Or.inl ⟨by rfl, ?_⟩) hHeld ?_ ?_
         rotate_left
         ·rintro w' ⟨s0, s1, s2, s3, s4, s5⟩
          go_simp
          with_reducible rfl
         rotate_left
         ·simp only [Act.put, List.setIfInBounds_toArray, List.set_cons_zero, List.set_cons_succ, i64_w, i32_w]
          rfl
         refine take_ (i := 11) (N := some 41) (v := ?_) (a' := ?_) #[oT,oT,oT,oT,oT,oT,oT,oT,oT,oT,oF,oT,oF,oF,oF,oF,oF,oF,oF,oF,oF,oF,oF,oF,oF,oF,oF,oF,oF,oF] rfl rfl (take_ofW HT_.out HW_.out (by kernel_rfl)) (fun _ _ _ h => h) (Or.inl ⟨by rfl, ?_⟩) hHeld ?_ ?_
         rotate_left
         ·rintro w' ⟨s0, s1, s2, s3, s4, s5⟩
          go_simp
          with_reducible rfl
         rotate_left
         ·simp only [Act.put, List.setIfInBounds_toArray, List.set_cons_zero, List.set_cons_succ, i64_w, i32_w]
          rfl
         refine one_ (i := 10) (N := some 40) (bs 30 12) rfl rfl (one_of HT_.out (by kernel_rfl)) (by decide) (fun K hK => ?_)
         refine goes_ Try.func28 (by kernel_rfl) rfl #[.agg #[.int .i64 t241, .int .i64 t242, .int .i64 t243]] (by rfl) rfl rfl mt_ ?_
         with_reducible refine (impl_VecTop.calls t241 t242 t243 t248 _ A33.out).mono ?_
         rintro e w49 ⟨rfl, hb⟩
         refine ⟨_, rfl, ?_⟩
         have n0_ := Aside0.mk (blk_below (g := gb240) (o := .cells #[.int .i64 t236, .int .i64 t237, .int .i64 t238] 35 (0, 0)) (bk_ BK240) hb)
         have n1_ := Aside0.mk (blk_below (g := gb244) (o := .cells #[.int .i64 t241, .int .i64 t242, .int .i64 t243] 35 (0, 0)) (bk_ BK244) hb)
         have n2_ := Aside0.mk (below_step (by repeat (first | (with_reducible first | exact HB.out | apply below_alloc | apply pw_below_drewN | apply below_drew1 | refine below_set ?_ GE240.out | refine below_set ?_ GE244.out) | exact HB.out)) hb)
         clear BK240
         clear BK244
         clear HB
         have BK240 := n0_
         have BK244 := n1_
         have HB := n2_
         clear n0_ n1_ n2_
         (try clear hb)
         (try clear hb2)
         (try clear hk)
         (try clear hi)
         refine hK.out _ _ ⟨(blk_cell BK244.out 0).trans rfl, (blk_cell BK244.out 1).trans rfl, (blk_cell BK244.out 2).trans rfl, (blk_cell BK240.out 0).trans rfl, (blk_cell BK240.out 1).trans rfl, (blk_cell BK240.out 2).trans rfl⟩ (fun hHeld => ?_)
         clear hK K
         refine norm_ (a' := ?_) ?_ ?_
         rotate_left
         ·show Act.put _ (some 40) _ = _
          simp only [Act.put, List.setIfInBounds_toArray, List.set_cons_zero, List.set_cons_succ, i64_w, i32_w]
          rfl
         refine one_ (i := 12) (N := some 42) (bs 30 13) rfl rfl (one_of HT_.out (by kernel_rfl)) (by decide) (fun K hK => ?_)
         refine goes_ Try.func29 (by kernel_rfl) rfl #[.agg #[.int .i64 t236, .int .i64 t237, .int .i64 t238]] (by rfl) rfl rfl mt_ ?_
         with_reducible refine (spec_VecTop.calls t236 t237 t238 t249 _ A34.out).mono ?_
         rintro e w50 ⟨rfl, hb⟩
         refine ⟨_, rfl, ?_⟩
         have n0_ := Aside0.mk (blk_below (g := gb240) (o := .cells #[.int .i64 t236, .int .i64 t237, .int .i64 t238] 35 (0, 0)) (bk_ BK240) hb)
         have n1_ := Aside0.mk (blk_below (g := gb244) (o := .cells #[.int .i64 t241, .int .i64 t242, .int .i64 t243] 35 (0, 0)) (bk_ BK244) hb)
         have n2_ := Aside0.mk (below_step (by repeat (first | (with_reducible first | exact HB.out | apply below_alloc | apply pw_below_drewN | apply below_drew1 | refine below_set ?_ GE240.out | refine below_set ?_ GE244.out) | exact HB.out)) hb)
         clear BK240
         clear BK244
         clear HB
         have BK240 := n0_
         have BK244 := n1_
         have HB := n2_
         clear n0_ n1_ n2_
         (try clear hb)
         (try clear hb2)
         (try clear hk)
         (try clear hi)
         refine hK.out _ _ ⟨(blk_cell BK244.out 0).trans rfl, (blk_cell BK244.out 1).trans rfl, (blk_cell BK244.out 2).trans rfl, (blk_cell BK240.out 0).trans rfl, (blk_cell BK240.out 1).trans rfl, (blk_cell BK240.out 2).trans rfl⟩ (fun hHeld => ?_)
         clear hK K
         refine norm_ (a' := ?_) ?_ ?_
         rotate_left
         ·show Act.put _ (some 42) _ = _
          simp only [Act.put, List.setIfInBounds_toArray, List.set_cons_zero, List.set_cons_succ, i64_w, i32_w]
          rfl
         refine pure_s (i := 13) (N := some 43) (bs 30 14) (any_of HT_.out (by kernel_rfl)) (h := ?_)
         refine pure_s (i := 14) (N := some 44) (bs 30 15) (any_of HT_.out (by kernel_rfl)) (h := ?_)
         refine pure_s (i := 15) (N := some 45) (bs 30 16) (any_of HT_.out (by kernel_rfl)) (h := ?_)
         refine pure_s (i := 17) (N := some 47) #[oT,oT,oT,oT,oT,oT,oT,oT,oT,oT,oT,oT,oT,oT,oT,oT,oF,oT,oF,oF,oF,oF,oF,oF,oF,oF,oF,oF,oF,oF] (any_of HT_.out (by kernel_rfl)) (h := ?_)
         refine take_ (i := 16) (N := some 46) (v := ?_) (a' := ?_) (bs 30 18) rfl rfl (take_ofW HT_.out HW_.out (by kernel_rfl)) (fun _ _ _ h => h) (Or.inl ⟨by rfl, ?_⟩) hHeld ?_ ?_
         rotate_left
         ·rintro w' ⟨s0, s1, s2, s3, s4, s5⟩
          go_simp
          with_reducible rfl
         rotate_left
         ·simp only [Act.put, List.setIfInBounds_toArray, List.set_cons_zero, List.set_cons_succ, i64_w, i32_w]
          rfl
         refine take_ (i := 19) (N := some 49) (v := ?_) (a' := ?_) #[oT,oT,oT,oT,oT,oT,oT,oT,oT,oT,oT,oT,oT,oT,oT,oT,oT,oT,oF,oT,oF,oF,oF,oF,oF,oF,oF,oF,oF,oF] rfl rfl (take_ofW HT_.out HW_.out (by kernel_rfl)) (fun _ _ _ h => h) (Or.inl ⟨by rfl, ?_⟩) hHeld ?_ ?_
         rotate_left
         ·rintro w' ⟨s0, s1, s2, s3, s4, s5⟩
          go_simp
          with_reducible rfl
         rotate_left
         ·simp only [Act.put, List.setIfInBounds_toArray, List.set_cons_zero, List.set_cons_succ, i64_w, i32_w]
          rfl
         refine one_ (i := 18) (N := some 48) (bs 30 20) rfl rfl (one_of HT_.out (by kernel_rfl)) (by decide) (fun K hK => ?_)
         refine goes_ Try.func24 (by kernel_rfl) rfl #[.agg #[.int .i64 t241, .int .i64 t242, .int .i64 t243], .int .i64 t239] (by rfl) rfl rfl mt_ ?_
         with_reducible refine (impl_Dovetail.calls t241 t242 t243 t239 t250 t251 t252 _ A36.out).mono ?_
         rintro e w51 ⟨rfl, hb⟩
         refine ⟨_, rfl, ?_⟩
         have n0_ := Aside0.mk (blk_below (g := gb240) (o := .cells #[.int .i64 t236, .int .i64 t237, .int .i64 t238] 35 (0, 0)) (bk_ BK240) hb)
         have n1_ := Aside0.mk (blk_below (g := gb244) (o := .cells #[.int .i64 t241, .int .i64 t242, .int .i64 t243] 35 (0, 0)) (bk_ BK244) hb)
         have n2_ := Aside0.mk (below_step (by repeat (first | (with_reducible first | exact HB.out | apply below_alloc | apply pw_below_drewN | apply below_drew1 | refine below_set ?_ GE240.out | refine below_set ?_ GE244.out) | exact HB.out)) hb)
         clear BK240
         clear BK244
         clear HB
         have BK240 := n0_
         have BK244 := n1_
         have HB := n2_
         clear n0_ n1_ n2_
         (try clear hb)
         (try clear hb2)
         (try clear hk)
         (try clear hi)
         refine hK.out _ _ ⟨(blk_cell BK244.out 0).trans rfl, (blk_cell BK244.out 1).trans rfl, (blk_cell BK244.out 2).trans rfl, (blk_cell BK240.out 0).trans rfl, (blk_cell BK240.out 1).trans rfl, (blk_cell BK240.out 2).trans rfl⟩ (fun hHeld => ?_)
         clear hK K
         refine norm_ (a' := ?_) ?_ ?_
         rotate_left
         ·show Act.put _ (some 48) _ = _
          simp only [Act.put, List.setIfInBounds_toArray, List.set_cons_zero, List.set_cons_succ, i64_w, i32_w]
          rfl
         refine pure_s (i := 20) (N := some 50) (bs 30 21) (any_of HT_.out (by kernel_rfl)) (h := ?_)
         refine pure_s (i := 21) (N := some 51) (bs 30 22) (any_of HT_.out (by kernel_rfl)) (h := ?_)
         refine pure_s (i := 22) (N := some 52) (bs 30 23) (any_of HT_.out (by kernel_rfl)) (h := ?_)
         refine pure_u (i := 23) (N := some 53) (bs 30 24) (any_of HT_.out (by kernel_rfl)) (h := ?_)
         refine pure_u (i := 24) (N := some 54) (bs 30 25) (any_of HT_.out (by kernel_rfl)) (h := ?_)
         refine pure_u (i := 25) (N := some 55) (bs 30 26) (any_of HT_.out (by kernel_rfl)) (h := ?_)
         refine pure_u (i := 26) (N := some 56) (bs 30 27) (any_of HT_.out (by kernel_rfl)) (h := ?_)
         refine pure_u (i := 27) (N := some 57) (bs 30 28) (any_of HT_.out (by kernel_rfl)) (h := ?_)
         refine pure_s (i := 28) (N := some 58) (bs 30 29) (any_of HT_.out (by kernel_rfl)) (h := ?_)
         refine pure_s (i := 29) (N := some 2) (bs 30 30) (any_of HT_.out (by kernel_rfl)) (h := ?_)
         refine done_ (done_of HT_.out (by kernel_rfl)) ?_
         try go_wp2
         go_ret
         exact ⟨by first | rfl | (simp [errW_none, errW_some] <;> rfl) | (simp [*, errW_none, errW_some] <;> rfl), by repeat (first | (with_reducible first | exact HB.out | apply below_alloc | apply pw_below_drewN | apply below_drew1 | refine below_set ?_ GE240.out | refine below_set ?_ GE244.out) | exact HB.out)⟩
       ·rw [if_neg c35] at H
        have c35b0 : (t248 == t249) = false := beq_eq_false_iff_ne.mpr c35
        have c35b1 : (t248 != t249) = true := bne_iff_ne.mpr c35
        obtain rfl := Option.some.inj H
        try go_wp2
        have n0_ := Aside0.mk (blk_drew BK240.out)
        have n1_ := Aside0.mk (blk_drew BK244.out)
        have n2_ := Aside0.mk (below_drew1 HB.out)
        clear BK240
        clear BK244
        clear HB
        have BK240 := n0_
        have BK244 := n1_
        have HB := n2_
        clear n0_ n1_ n2_
        refine start_ (n := 30) (S := fun w' => w'.cell? ⟨gb244, 0, none⟩ = some (.int .i64 t241) ∧ w'.cell? ⟨gb244, 1, none⟩ = some (.int .i64 t242) ∧ w'.cell? ⟨gb244, 2, none⟩ = some (.int .i64 t243) ∧ w'.cell? ⟨gb240, 0, none⟩ = some (.int .i64 t236) ∧ w'.cell? ⟨gb240, 1, none⟩ = some (.int .i64 t237) ∧ w'.cell? ⟨gb240, 2, none⟩ = some (.int .i64 t238)) (ds := []) (bs 30 0) (by kernel_rfl) rfl rfl ⟨(blk_cell BK244.out 0).trans rfl, (blk_cell BK244.out 1).trans rfl, (blk_cell BK244.out 2).trans rfl, (blk_cell BK240.out 0).trans rfl, (blk_cell BK240.out 1).trans rfl, (blk_cell BK240.out 2).trans rfl⟩ (fun hHeld => ?_); refine with_tabW laws_FnDovetailNarrow.tab7 laws_FnDovetailNarrow.bits7 (fun HT_ HW_ => ?_)
        generalize wc.drew = w52 at BK240 BK244 HB hHeld ⊢
        refine pure_s (i := 1) (N := some 31) #[oF,oT,oF,oF,oF,oF,oF,oF,oF,oF,oF,oF,oF,oF,oF,oF,oF,oF,oF,oF,oF,oF,oF,oF,oF,oF,oF,oF,oF,oF] (any_of HT_.out (by kernel_rfl)) (h := ?_)
        refine take_ (i := 0) (N := some 30) (v := ?_) (a' := ?_) (bs 30 2) rfl rfl (take_ofW HT_.out HW_.out (by kernel_rfl)) (fun _ _ _ h => h) (Or.inl ⟨by rfl, ?_⟩) hHeld ?_ ?_
        rotate_left
        ·rintro w' ⟨s0, s1, s2, s3, s4, s5⟩
         go_simp
         with_reducible rfl
        rotate_left
        ·simp only [Act.put, List.setIfInBounds_toArray, List.set_cons_zero, List.set_cons_succ, i64_w, i32_w]
         rfl
        refine one_ (i := 2) (N := some 32) (bs 30 3) rfl rfl (one_of HT_.out (by kernel_rfl)) (by decide) (fun K hK => ?_)
        refine goes_ Try.func26 (by kernel_rfl) rfl #[.agg #[.int .i64 t241, .int .i64 t242, .int .i64 t243], .int .i64 t239] (by rfl) rfl rfl mt_ ?_
        with_reducible refine (impl_Narrow.calls t241 t242 t243 t239 true _ A29.out).mono ?_
        rintro e w53 ⟨rfl, hb⟩
        refine ⟨_, rfl, ?_⟩
        have n0_ := Aside0.mk (blk_below (g := gb240) (o := .cells #[.int .i64 t236, .int .i64 t237, .int .i64 t238] 35 (0, 0)) (bk_ BK240) hb)
        have n1_ := Aside0.mk (blk_below (g := gb244) (o := .cells #[.int .i64 t241, .int .i64 t242, .int .i64 t243] 35 (0, 0)) (bk_ BK244) hb)
        have n2_ := Aside0.mk (below_step (by repeat (first | (with_reducible first | exact HB.out | apply below_alloc | apply pw_below_drewN | apply below_drew1 | refine below_set ?_ GE240.out | refine below_set ?_ GE244.out) | exact HB.out)) hb)
        clear BK240
        clear BK244
        clear HB
        have BK240 := n0_
        have BK244 := n1_
        have HB := n2_
        clear n0_ n1_ n2_
        (try clear hb)
        (try clear hb2)
        (try clear hk)
        (try clear hi)
        refine hK.out _ _ ⟨(blk_cell BK244.out 0).trans rfl, (blk_cell BK244.out 1).trans rfl, (blk_cell BK244.out 2).trans rfl, (blk_cell BK240.out 0).trans rfl, (blk_cell BK240.out 1).trans rfl, (blk_cell BK240.out 2).trans rfl⟩ (fun hHeld => ?_)
        clear hK K
        refine norm_ (a' := ?_) ?_ ?_
        rotate_left
        ·show Act.put _ (some 32) _ = _
         simp only [Act.put, List.setIfInBounds_toArray, List.set_cons_zero, List.set_cons_succ, i64_w, i32_w]
         rfl
        refine pure_s (i := 3) (N := some 33) (bs 30 4) (any_of HT_.out (by kernel_rfl)) (h := ?_)
        refine pure_s (i := 5) (N := some 35) #[oT,oT,oT,oT,oF,oT,oF,oF,oF,oF,oF,oF,oF,oF,oF,oF,oF,oF,oF,oF,oF,oF,oF,oF,oF,oF,oF,oF,oF,oF] (any_of HT_.out (by kernel_rfl)) (h := ?_)
        refine take_ (i := 4) (N := some 34) (v := ?_) (a' := ?_) (bs 30 6) rfl rfl (take_ofW HT_.out HW_.out (by kernel_rfl)) (fun _ _ _ h => h) (Or.inl ⟨by rfl, ?_⟩) hHeld ?_ ?_
        rotate_left
        ·rintro w' ⟨s0, s1, s2, s3, s4, s5⟩
         go_simp
         with_reducible rfl
        rotate_left
        ·simp only [Act.put, List.setIfInBounds_toArray, List.set_cons_zero, List.set_cons_succ, i64_w, i32_w]
         rfl
        refine one_ (i := 6) (N := some 36) (bs 30 7) rfl rfl (one_of HT_.out (by kernel_rfl)) (by decide) (fun K hK => ?_)
        refine goes_ Try.func27 (by kernel_rfl) rfl #[.agg #[.int .i64 t241, .int .i64 t242, .int .i64 t243], .int .i64 t239] (by rfl) rfl rfl mt_ ?_
        with_reducible refine (spec_Narrow.calls t241 t242 t243 t239 true _ A31.out).mono ?_
        rintro e w54 ⟨rfl, hb⟩
        refine ⟨_, rfl, ?_⟩
        have n0_ := Aside0.mk (blk_below (g := gb240) (o := .cells #[.int .i64 t236, .int .i64 t237, .int .i64 t238] 35 (0, 0)) (bk_ BK240) hb)
        have n1_ := Aside0.mk (blk_below (g := gb244) (o := .cells #[.int .i64 t241, .int .i64 t242, .int .i64 t243] 35 (0, 0)) (bk_ BK244) hb)
        have n2_ := Aside0.mk (below_step (by repeat (first | (with_reducible first | exact HB.out | apply below_alloc | apply pw_below_drewN | apply below_drew1 | refine below_set ?_ GE240.out | refine below_set ?_ GE244.out) | exact HB.out)) hb)
        clear BK240
        clear BK244
        clear HB
        have BK240 := n0_
        have BK244 := n1_
        have HB := n2_
        clear n0_ n1_ n2_
        (try clear hb)
        (try clear hb2)
        (try clear hk)
        (try clear hi)
        refine hK.out _ _ ⟨(blk_cell BK244.out 0).trans rfl, (blk_cell BK244.out 1).trans rfl, (blk_cell BK244.out 2).trans rfl, (blk_cell BK240.out 0).trans rfl, (blk_cell BK240.out 1).trans rfl, (blk_cell BK240.out 2).trans rfl⟩ (fun hHeld => ?_)
        clear hK K
        refine norm_ (a' := ?_) ?_ ?_
        rotate_left
        ·show Act.put _ (some 36) _ = _
         simp only [Act.put, List.setIfInBounds_toArray, List.set_cons_zero, List.set_cons_succ, i64_w, i32_w]
         rfl
        refine pure_s (i := 7) (N := some 37) (bs 30 8) (any_of HT_.out (by kernel_rfl)) (h := ?_)
        refine pure_s (i := 8) (N := some 38) (bs 30 9) (any_of HT_.out (by kernel_rfl)) (h := ?_)
        refine take_ (i := 9) (N := some 39) (v := ?_) (a' := ?_) (bs 30 10) rfl rfl (take_ofW HT_.out HW_.out (by kernel_rfl)) (fun _ _ _ h => h) (Or.inl ⟨by rfl, ?_⟩) hHeld ?_ ?_
        rotate_left
        ·rintro w' ⟨s0, s1, s2, s3, s4, s5⟩
         go_simp
         with_reducible rfl
        rotate_left
        ·simp only [Act.put, List.setIfInBounds_toArray, List.set_cons_zero, List.set_cons_succ, i64_w, i32_w]
         rfl
        refine take_ (i := 11) (N := some 41) (v := ?_) (a' := ?_) #[oT,oT,oT,oT,oT,oT,oT,oT,oT,oT,oF,oT,oF,oF,oF,oF,oF,oF,oF,oF,oF,oF,oF,oF,oF,oF,oF,oF,oF,oF] rfl rfl (take_ofW HT_.out HW_.out (by kernel_rfl)) (fun _ _ _ h => h) (Or.inl ⟨by rfl, ?_⟩) hHeld ?_ ?_
        rotate_left
        ·rintro w' ⟨s0, s1, s2, s3, s4, s5⟩
         go_simp
         with_reducible rfl
        rotate_left
        ·simp only [Act.put, List.setIfInBounds_toArray, List.set_cons_zero, List.set_cons_succ, i64_w, i32_w]
         rfl
        refine one_ (i := 10) (N := some 40) (bs 30 12) rfl rfl (one_of HT_.out (by kernel_rfl)) (by decide) (fun K hK => ?_)
        refine goes_ Try.func28 (by kernel_rfl) rfl #[.agg #[.int .i64 t241, .int .i64 t242, .int .i64 t243]] (by rfl) rfl rfl mt_ ?_
        with_reducible refine (impl_VecTop.calls t241 t242 t243 t248 _ A33.out).mono ?_
        rintro e w55 ⟨rfl, hb⟩
        refine ⟨_, rfl, ?_⟩
        have n0_ := Aside0.mk (blk_below (g := gb240) (o := .cells #[.int .i64 t236, .int .i64 t237, .int .i64 t238] 35 (0, 0)) (bk_ BK240) hb)
        have n1_ := Aside0.mk (blk_below (g := gb244) (o := .cells #[.int .i64 t241, .int .i64 t242, .int .i64 t243] 35 (0, 0)) (bk_ BK244) hb)
        have n2_ := Aside0.mk (below_step (by repeat (first | (with_reducible first | exact HB.out | apply below_alloc | apply pw_below_drewN | apply below_drew1 | refine below_set ?_ GE240.out | refine below_set ?_ GE244.out) | exact HB.out)) hb)
        clear BK240
        clear BK244
        clear HB
        have BK240 := n0_
        have BK244 := n1_
        have HB := n2_
        clear n0_ n1_ n2_
        (try clear hb)
        (try clear hb2)
        (try clear hk)
        (try clear hi)
        refine hK.out _ _ ⟨(blk_cell BK244.out 0).trans rfl, (blk_cell BK244.out 1).trans rfl, (blk_cell BK244.out 2).trans rfl, (blk_cell BK240.out 0).trans rfl, (blk_cell BK240.out 1).trans rfl, (blk_cell BK240.out 2).trans rfl⟩ (fun hHeld => ?_)
        clear hK K
        refine norm_ (a' := ?_) ?_ ?_
        rotate_left
        ·show Act.put _ (some 40) _ = _
         simp only [Act.put, List.setIfInBounds_toArray, List.set_cons_zero, List.set_cons_succ, i64_w, i32_w]
         rfl
        refine one_ (i := 12) (N := some 42) (bs 30 13) rfl rfl (one_of HT_.out (by kernel_rfl)) (by decide) (fun K hK => ?_)
        refine goes_ Try.func29 (by kernel_rfl) rfl #[.agg #[.int .i64 t236, .int .i64 t237, .int .i64 t238]] (by rfl) rfl rfl mt_ ?_
        with_reducible refine (spec_VecTop.calls t236 t237 t238 t249 _ A34.out).mono ?_
        rintro e w56 ⟨rfl, hb⟩
        refine ⟨_, rfl, ?_⟩
        have n0_ := Aside0.mk (blk_below (g := gb240) (o := .cells #[.int .i64 t236, .int .i64 t237, .int .i64 t238] 35 (0, 0)) (bk_ BK240) hb)
        have n1_ := Aside0.mk (blk_below (g := gb244) (o := .cells #[.int .i64 t241, .int .i64 t242, .int .i64 t243] 35 (0, 0)) (bk_ BK244) hb)
        have n2_ := Aside0.mk (below_step (by repeat (first | (with_reducible first | exact HB.out | apply below_alloc | apply pw_below_drewN | apply below_drew1 | refine below_set ?_ GE240.out | refine below_set ?_ GE244.out) | exact HB.out)) hb)
        clear BK240
        clear BK244
        clear HB
        have BK240 := n0_
        have BK244 := n1_
        have HB := n2_
        clear n0_ n1_ n2_
        (try clear hb)
        (try clear hb2)
        (try clear hk)
        (try clear hi)
        refine hK.out _ _ ⟨(blk_cell BK244.out 0).trans rfl, (blk_cell BK244.out 1).trans rfl, (blk_cell BK244.out 2).trans rfl, (blk_cell BK240.out 0).trans rfl, (blk_cell BK240.out 1).trans rfl, (blk_cell BK240.out 2).trans rfl⟩ (fun hHeld => ?_)
        clear hK K
        refine norm_ (a' := ?_) ?_ ?_
        rotate_left
        ·show Act.put _ (some 42) _ = _
         simp only [Act.put, List.setIfInBounds_toArray, List.set_cons_zero, List.set_cons_succ, i64_w, i32_w]
         rfl
        refine pure_s (i := 13) (N := some 43) (bs 30 14) (any_of HT_.out (by kernel_rfl)) (h := ?_)
        refine pure_s (i := 14) (N := some 44) (bs 30 15) (any_of HT_.out (by kernel_rfl)) (h := ?_)
        refine pure_s (i := 15) (N := some 45) (bs 30 16) (any_of HT_.out (by kernel_rfl)) (h := ?_)
        refine pure_u (i := 16) (N := some 46) (bs 30 17) (any_of HT_.out (by kernel_rfl)) (h := ?_)
        refine pure_u (i := 17) (N := some 47) (bs 30 18) (any_of HT_.out (by kernel_rfl)) (h := ?_)
        refine pure_u (i := 18) (N := some 48) (bs 30 19) (any_of HT_.out (by kernel_rfl)) (h := ?_)
        refine pure_u (i := 19) (N := some 49) (bs 30 20) (any_of HT_.out (by kernel_rfl)) (h := ?_)
        refine pure_u (i := 20) (N := some 50) (bs 30 21) (any_of HT_.out (by kernel_rfl)) (h := ?_)
        refine pure_s (i := 21) (N := some 51) (bs 30 22) (any_of HT_.out (by kernel_rfl)) (h := ?_)
        refine pure_s (i := 22) (N := some 52) (bs 30 23) (any_of HT_.out (by kernel_rfl)) (h := ?_)
        refine pure_u (i := 23) (N := some 53) (bs 30 24) (any_of HT_.out (by kernel_rfl)) (h := ?_)
        refine pure_u (i := 24) (N := some 54) (bs 30 25) (any_of HT_.out (by kernel_rfl)) (h := ?_)
        refine pure_u (i := 25) (N := some 55) (bs 30 26) (any_of HT_.out (by kernel_rfl)) (h := ?_)
        refine pure_u (i := 26) (N := some 56) (bs 30 27) (any_of HT_.out (by kernel_rfl)) (h := ?_)
        refine pure_u (i := 27) (N := some 57) (bs 30 28) (any_of HT_.out (by kernel_rfl)) (h := ?_)
        refine pure_s (i := 28) (N := some 58) (bs 30 29) (any_of HT_.out (by kernel_rfl)) (h := ?_)
        refine pure_s (i := 29) (N := some 2) (bs 30 30) (any_of HT_.out (by kernel_rfl)) (h := ?_)
        refine done_ (done_of HT_.out (by kernel_rfl)) ?_
        try go_wp2
        go_ret
        exact ⟨by first | rfl | (simp [errW_none, errW_some] <;> rfl) | (simp [*, errW_none, errW_some] <;> rfl), by repeat (first | (with_reducible first | exact HB.out | apply below_alloc | apply pw_below_drewN | apply below_drew1 | refine below_set ?_ GE240.out | refine below_set ?_ GE244.out) | exact HB.out)⟩
      ·replace c32 := Bool.eq_false_iff.mpr c32
       subst c32
       have H1 : (some false) = some r := by rw [if_neg (show ¬ (false = true) by decide)] at H; exact H
       clear H
       have H := H1
       clear H1
       obtain rfl := Option.some.inj H
       try go_wp2
       have n0_ := Aside0.mk (blk_drew BK240.out)
       have n1_ := Aside0.mk (blk_drew BK244.out)
       have n2_ := Aside0.mk (below_drew1 HB.out)
       clear BK240
       clear BK244
       clear HB
       have BK240 := n0_
       have BK244 := n1_
       have HB := n2_
       clear n0_ n1_ n2_
       refine start_ (n := 30) (S := fun w' => w'.cell? ⟨gb244, 0, none⟩ = some (.int .i64 t241) ∧ w'.cell? ⟨gb244, 1, none⟩ = some (.int .i64 t242) ∧ w'.cell? ⟨gb244, 2, none⟩ = some (.int .i64 t243)) (ds := []) (bs 30 0) (by kernel_rfl) rfl rfl ⟨(blk_cell BK244.out 0).trans rfl, (blk_cell BK244.out 1).trans rfl, (blk_cell BK244.out 2).trans rfl⟩ (fun hHeld => ?_); refine with_tabW laws_FnDovetailNarrow.tab7 laws_FnDovetailNarrow.bits7 (fun HT_ HW_ => ?_)
       generalize wc.drew = w57 at BK240 BK244 HB hHeld ⊢
       refine pure_s (i := 1) (N := some 31) #[oF,oT,oF,oF,oF,oF,oF,oF,oF,oF,oF,oF,oF,oF,oF,oF,oF,oF,oF,oF,oF,oF,oF,oF,oF,oF,oF,oF,oF,oF] (any_of HT_.out (by kernel_rfl)) (h := ?_)
       refine take_ (i := 0) (N := some 30) (v := ?_) (a' := ?_) (bs 30 2) rfl rfl (take_ofW HT_.out HW_.out (by kernel_rfl)) (fun _ _ _ h => h) (Or.inl ⟨by rfl, ?_⟩) hHeld ?_ ?_
       rotate_left
       ·rintro w' ⟨s0, s1, s2⟩
        go_simp
        with_reducible rfl
       rotate_left
       ·simp only [Act.put, List.setIfInBounds_toArray, List.set_cons_zero, List.set_cons_succ, i64_w, i32_w]
        rfl
       refine one_ (i := 2) (N := some 32) (bs 30 3) rfl rfl (one_of HT_.out (by kernel_rfl)) (by decide) (fun K hK => ?_)
       refine goes_ Try.func26 (by kernel_rfl) rfl #[.agg #[.int .i64 t241, .int .i64 t242, .int .i64 t243], .int .i64 t239] (by rfl) rfl rfl mt_ ?_
       with_reducible refine (impl_Narrow.calls t241 t242 t243 t239 true _ A29.out).mono ?_
       rintro e w58 ⟨rfl, hb⟩
       refine ⟨_, rfl, ?_⟩
       have n0_ := Aside0.mk (blk_below (g := gb240) (o := .cells #[.int .i64 t236, .int .i64 t237, .int .i64 t238] 35 (0, 0)) (bk_ BK240) hb)
       have n1_ := Aside0.mk (blk_below (g := gb244) (o := .cells #[.int .i64 t241, .int .i64 t242, .int .i64 t243] 35 (0, 0)) (bk_ BK244) hb)
       have n2_ := Aside0.mk (below_step (by repeat (first | (with_reducible first | exact HB.out | apply below_alloc | apply pw_below_drewN | apply below_drew1 | refine below_set ?_ GE240.out | refine below_set ?_ GE244.out) | exact HB.out)) hb)
       clear BK240
       clear BK244
       clear HB
       have BK240 := n0_
       have BK244 := n1_
       have HB := n2_
       clear n0_ n1_ n2_
       (try clear hb)
       (try clear hb2)
       (try clear hk)
       (try clear hi)
       refine hK.out _ _ ⟨(blk_cell BK244.out 0).trans rfl, (blk_cell BK244.out 1).trans rfl, (blk_cell BK244.out 2).trans rfl⟩ (fun hHeld => ?_)
       clear hK K
       refine norm_ (a' := ?_) ?_ ?_
       rotate_left
       ·show Act.put _ (some 32) _ = _
        simp only [Act.put, List.setIfInBounds_toArray, List.set_cons_zero, List.set_cons_succ, i64_w, i32_w]
        rfl
       refine pure_s (i := 3) (N := some 33) (bs 30 4) (any_of HT_.out (by kernel_rfl)) (h := ?_)
       refine pure_s (i := 5) (N := some 35) #[oT,oT,oT,oT,oF,oT,oF,oF,oF,oF,oF,oF,oF,oF,oF,oF,oF,oF,oF,oF,oF,oF,oF,oF,oF,oF,oF,oF,oF,oF] (any_of HT_.out (by kernel_rfl)) (h := ?_)
       refine take_ (i := 4) (N := some 34) (v := ?_) (a' := ?_) (bs 30 6) rfl rfl (take_ofW HT_.out HW_.out (by kernel_rfl)) (fun _ _ _ h => h) (Or.inl ⟨by rfl, ?_⟩) hHeld ?_ ?_
       rotate_left
       ·rintro w' ⟨s0, s1, s2⟩
        go_simp
        with_reducible rfl
       rotate_left
       ·simp only [Act.put, List.setIfInBounds_toArray, List.set_cons_zero, List.set_cons_succ, i64_w, i32_w]
        rfl
       refine one_ (i := 6) (N := some 36) (bs 30 7) rfl rfl (one_of HT_.out (by kernel_rfl)) (by decide) (fun K hK => ?_)
       refine goes_ Try.func27 (by kernel_rfl) rfl #[.agg #[.int .i64 t241, .int .i64 t242, .int .i64 t243], .int .i64 t239] (by rfl) rfl rfl mt_ ?_
       with_reducible refine (spec_Narrow.calls t241 t242 t243 t239 false _ A31.out).mono ?_
       rintro e w59 ⟨rfl, hb⟩
       refine ⟨_, rfl, ?_⟩
       have n0_ := Aside0.mk (blk_below (g := gb240) (o := .cells #[.int .i64 t236, .int .i64 t237, .int .i64 t238] 35 (0, 0)) (bk_ BK240) hb)
       have n1_ := Aside0.mk (blk_below (g := gb244) (o := .cells #[.int .i64 t241, .int .i64 t242, .int .i64 t243] 35 (0, 0)) (bk_ BK244) hb)
       have n2_ := Aside0.mk (below_step (by repeat (first | (with_reducible first | exact HB.out | apply below_alloc | apply pw_below_drewN | apply below_drew1 | refine below_set ?_ GE240.out | refine below_set ?_ GE244.out) | exact HB.out)) hb)
       clear BK240
       clear BK244
       clear HB
       have BK240 := n0_
       have BK244 := n1_
       have HB := n2_
       clear n0_ n1_ n2_
       (try clear hb)
       (try clear hb2)
       (try clear hk)
       (try clear hi)
       refine hK.out _ _ ⟨(blk_cell BK244.out 0).trans rfl, (blk_cell BK244.out 1).trans rfl, (blk_cell BK244.out 2).trans rfl⟩ (fun hHeld => ?_)
       clear hK K
       refine norm_ (a' := ?_) ?_ ?_
       rotate_left
       ·show Act.put _ (some 36) _ = _
        simp only [Act.put, List.setIfInBounds_toArray, List.set_cons_zero, List.set_cons_succ, i64_w, i32_w]
        rfl
       refine pure_s (i := 7) (N := some 37) (bs 30 8) (any_of HT_.out (by kernel_rfl)) (h := ?_)
       refine pure_s (i := 8) (N := some 38) (bs 30 9) (any_of HT_.out (by kernel_rfl)) (h := ?_)
       refine pure_u (i := 9) (N := some 39) (bs 30 10) (any_of HT_.out (by kernel_rfl)) (h := ?_)
       refine pure_u (i := 10) (N := some 40) (bs 30 11) (any_of HT_.out (by kernel_rfl)) (h := ?_)
       refine pure_u (i := 11) (N := some 41) (bs 30 12) (any_of HT_.out (by kernel_rfl)) (h := ?_)
       refine pure_u (i := 12) (N := some 42) (bs 30 13) (any_of HT_.out (by kernel_rfl)) (h := ?_)
       refine pure_u (i := 13) (N := some 43) (bs 30 14) (any_of HT_.out (by kernel_rfl)) (h := ?_)
       refine pure_s (i := 14) (N := some 44) (bs 30 15) (any_of HT_.out (by kernel_rfl)) (h := ?_)
       refine pure_s (i := 15) (N := some 45) (bs 30 16) (any_of HT_.out (by kernel_rfl)) (h := ?_)
       refine pure_u (i := 16) (N := some 46) (bs 30 17) (any_of HT_.out (by kernel_rfl)) (h := ?_)
       refine pure_u (i := 17) (N := some 47) (bs 30 18) (any_of HT_.out (by kernel_rfl)) (h := ?_)
       refine pure_u (i := 18) (N := some 48) (bs 30 19) (any_of HT_.out (by kernel_rfl)) (h := ?_)
       refine pure_u (i := 19) (N := some 49) (bs 30 20) (any_of HT_.out (by kernel_rfl)) (h := ?_)
       refine pure_u (i := 20) (N := some 50) (bs 30 21) (any_of HT_.out (by kernel_rfl)) (h := ?_)
       refine pure_s (i := 21) (N := some 51) (bs 30 22) (any_of HT_.out (by kernel_rfl)) (h := ?_)
       refine pure_s (i := 22) (N := some 52) (bs 30 23) (any_of HT_.out (by kernel_rfl)) (h := ?_)
       refine pure_u (i := 23) (N := some 53) (bs 30 24) (any_of HT_.out (by kernel_rfl)) (h := ?_)
       refine pure_u (i := 24) (N := some 54) (bs 30 25) (any_of HT_.out (by kernel_rfl)) (h := ?_)
       refine pure_u (i := 25) (N := some 55) (bs 30 26) (any_of HT_.out (by kernel_rfl)) (h := ?_)
       refine pure_u (i := 26) (N := some 56) (bs 30 27) (any_of HT_.out (by kernel_rfl)) (h := ?_)
       refine pure_u (i := 27) (N := some 57) (bs 30 28) (any_of HT_.out (by kernel_rfl)) (h := ?_)
       refine pure_s (i := 28) (N := some 58) (bs 30 29) (any_of HT_.out (by kernel_rfl)) (h := ?_)
       refine pure_s (i := 29) (N := some 2) (bs 30 30) (any_of HT_.out (by kernel_rfl)) (h := ?_)
       refine done_ (done_of HT_.out (by kernel_rfl)) ?_
       try go_wp2
       go_ret
       exact ⟨by first | rfl | (simp [errW_none, errW_some] <;> rfl) | (simp [*, errW_none, errW_some] <;> rfl), by repeat (first | (with_reducible first | exact HB.out | apply below_alloc | apply pw_below_drewN | apply below_drew1 | refine below_set ?_ GE240.out | refine below_set ?_ GE244.out) | exact HB.out)⟩
     ·replace c30 := Bool.eq_false_iff.mpr c30
      subst c30
      have H1 : (some false) = some r := by rw [if_neg (show ¬ (false = true) by decide)] at H; exact H
      clear H
      have H := H1
      clear H1
      obtain rfl := Option.some.inj H
      try go_wp2
      have n0_ := Aside0.mk (blk_drew BK240.out)
      have n1_ := Aside0.mk (blk_drew BK244.out)
      have n2_ := Aside0.mk (below_drew1 HB.out)
      clear BK240
      clear BK244
      clear HB
      have BK240 := n0_
      have BK244 := n1_
      have HB := n2_
      clear n0_ n1_ n2_
      refine start_ (n := 30) (S := fun w' => w'.cell? ⟨gb244, 0, none⟩ = some (.int .i64 t241) ∧ w'.cell? ⟨gb244, 1, none⟩ = some (.int .i64 t242) ∧ w'.cell? ⟨gb244, 2, none⟩ = some (.int .i64 t243)) (ds := []) (bs 30 0) (by kernel_rfl) rfl rfl ⟨(blk_cell BK244.out 0).trans rfl, (blk_cell BK244.out 1).trans rfl, (blk_cell BK244.out 2).trans rfl⟩ (fun hHeld => ?_); refine with_tabW laws_FnDovetailNarrow.tab7 laws_FnDovetailNarrow.bits7 (fun HT_ HW_ => ?_)
      generalize wc.drew = w60 at BK240 BK244 HB hHeld ⊢
      refine pure_s (i := 1) (N := some 31) #[oF,oT,oF,oF,oF,oF,oF,oF,oF,oF,oF,oF,oF,oF,oF,oF,oF,oF,oF,oF,oF,oF,oF,oF,oF,oF,oF,oF,oF,oF] (any_of HT_.out (by kernel_rfl)) (h := ?_)
      refine take_ (i := 0) (N := some 30) (v := ?_) (a' := ?_) (bs 30 2) rfl rfl (take_ofW HT_.out HW_.out (by kernel_rfl)) (fun _ _ _ h => h) (Or.inl ⟨by rfl, ?_⟩) hHeld ?_ ?_
      rotate_left
      ·rintro w' ⟨s0, s1, s2⟩
       go_simp
       with_reducible rfl
      rotate_left
      ·simp only [Act.put, List.setIfInBounds_toArray, List.set_cons_zero, List.set_cons_succ, i64_w, i32_w]
       rfl
      refine one_ (i := 2) (N := some 32) (bs 30 3) rfl rfl (one_of HT_.out (by kernel_rfl)) (by decide) (fun K hK => ?_)
      refine goes_ Try.func26 (by kernel_rfl) rfl #[.agg #[.int .i64 t241, .int .i64 t242, .int .i64 t243], .int .i64 t239] (by rfl) rfl rfl mt_ ?_
      with_reducible refine (impl_Narrow.calls t241 t242 t243 t239 false _ A29.out).mono ?_
      rintro e w61 ⟨rfl, hb⟩
      refine ⟨_, rfl, ?_⟩
      have n0_ := Aside0.mk (blk_below (g := gb240) (o := .cells #[.int .i64 t236, .int .i64 t237, .int .i64 t238] 35 (0, 0)) (bk_ BK240) hb)
      have n1_ := Aside0.mk (blk_below (g := gb244) (o := .cells #[.int .i64 t241, .int .i64 t242, .int .i64 t243] 35 (0, 0)) (bk_ BK244) hb)
      have n2_ := Aside0.mk (below_step (by repeat (first | (with_reducible first | exact HB.out | apply below_alloc | apply pw_below_drewN | apply below_drew1 | refine below_set ?_ GE240.out | refine below_set ?_ GE244.out) | exact HB.out)) hb)
      clear BK240
      clear BK244
      clear HB
      have BK240 := n0_
      have BK244 := n1_
      have HB := n2_
      clear n0_ n1_ n2_
      (try clear hb)
      (try clear hb2)
      (try clear hk)
      (try clear hi)
      refine hK.out _ _ ⟨(blk_cell BK244.out 0).trans rfl, (blk_cell BK244.out 1).trans rfl, (blk_cell BK244.out 2).trans rfl⟩ (fun hHeld => ?_)
      clear hK K
      refine norm_ (a' := ?_) ?_ ?_
      rotate_left
      ·show Act.put _ (some 32) _ = _
       simp only [Act.put, List.setIfInBounds_toArray, List.set_cons_zero, List.set_cons_succ, i64_w, i32_w]
       rfl
      refine pure_s (i := 3) (N := some 33) (bs 30 4) (any_of HT_.out (by kernel_rfl)) (h := ?_)
      refine pure_u (i := 4) (N := some 34) (bs 30 5) (any_of HT_.out (by kernel_rfl)) (h := ?_)
      refine pure_u (i := 5) (N := some 35) (bs 30 6) (any_of HT_.out (by kernel_rfl)) (h := ?_)
      refine pure_u (i := 6) (N := some 36) (bs 30 7) (any_of HT_.out (by kernel_rfl)) (h := ?_)
      refine pure_s (i := 7) (N := some 37) (bs 30 8) (any_of HT_.out (by kernel_rfl)) (h := ?_)
      refine pure_s (i := 8) (N := some 38) (bs 30 9) (any_of HT_.out (by kernel_rfl)) (h := ?_)
      refine pure_u (i := 9) (N := some 39) (bs 30 10) (any_of HT_.out (by kernel_rfl)) (h := ?_)
      refine pure_u (i := 10) (N := some 40) (bs 30 11) (any_of HT_.out (by kernel_rfl)) (h := ?_)
      refine pure_u (i := 11) (N := some 41) (bs 30 12) (any_of HT_.out (by kernel_rfl)) (h := ?_)
      refine pure_u (i := 12) (N := some 42) (bs 30 13) (any_of HT_.out (by kernel_rfl)) (h := ?_)
      refine pure_u (i := 13) (N := some 43) (bs 30 14) (any_of HT_.out (by kernel_rfl)) (h := ?_)
      refine pure_s (i := 14) (N := some 44) (bs 30 15) (any_of HT_.out (by kernel_rfl)) (h := ?_)
      refine pure_s (i := 15) (N := some 45) (bs 30 16) (any_of HT_.out (by kernel_rfl)) (h := ?_)
      refine pure_u (i := 16) (N := some 46) (bs 30 17) (any_of HT_.out (by kernel_rfl)) (h := ?_)
      refine pure_u (i := 17) (N := some 47) (bs 30 18) (any_of HT_.out (by kernel_rfl)) (h := ?_)
      refine pure_u (i := 18) (N := some 48) (bs 30 19) (any_of HT_.out (by kernel_rfl)) (h := ?_)
      refine pure_u (i := 19) (N := some 49) (bs 30 20) (any_of HT_.out (by kernel_rfl)) (h := ?_)
      refine pure_u (i := 20) (N := some 50) (bs 30 21) (any_of HT_.out (by kernel_rfl)) (h := ?_)
      refine pure_s (i := 21) (N := some 51) (bs 30 22) (any_of HT_.out (by kernel_rfl)) (h := ?_)
      refine pure_s (i := 22) (N := some 52) (bs 30 23) (any_of HT_.out (by kernel_rfl)) (h := ?_)
      refine pure_u (i := 23) (N := some 53) (bs 30 24) (any_of HT_.out (by kernel_rfl)) (h := ?_)
      refine pure_u (i := 24) (N := some 54) (bs 30 25) (any_of HT_.out (by kernel_rfl)) (h := ?_)
      refine pure_u (i := 25) (N := some 55) (bs 30 26) (any_of HT_.out (by kernel_rfl)) (h := ?_)
      refine pure_u (i := 26) (N := some 56) (bs 30 27) (any_of HT_.out (by kernel_rfl)) (h := ?_)
      refine pure_u (i := 27) (N := some 57) (bs 30 28) (any_of HT_.out (by kernel_rfl)) (h := ?_)
      refine pure_s (i := 28) (N := some 58) (bs 30 29) (any_of HT_.out (by kernel_rfl)) (h := ?_)
      refine pure_s (i := 29) (N := some 2) (bs 30 30) (any_of HT_.out (by kernel_rfl)) (h := ?_)
      refine done_ (done_of HT_.out (by kernel_rfl)) ?_
      try go_wp2
      go_ret
      exact ⟨by first | rfl | (simp [errW_none, errW_some] <;> rfl) | (simp [*, errW_none, errW_some] <;> rfl), by repeat (first | (with_reducible first | exact HB.out | apply below_alloc | apply pw_below_drewN | apply below_drew1 | refine below_set ?_ GE240.out | refine below_set ?_ GE244.out) | exact HB.out)⟩

/-- THE ONE PURE STATEMENT of laws_FnDovetailNarrow: yours. -/
def laws_FnDovetailNarrow.Pure : Prop := ∀ (l0 : List Int), l0.length ≤ maxLen → l0.length * 1 ≤ 140737488351232 → (∀ x ∈ l0, (Lit.int .u8 x).wf = true) → ∃ k, laws_FnDovetailNarrow.f k l0 = some true
theorem laws_FnDovetailNarrow.walk (P : laws_FnDovetailNarrow.Pure) (a0 : Option Addr) (len0 cap0 : Nat) (z0 : List Int) (w : World) (w0 : (a0 = none ∧ len0 = 0 ∧ cap0 = 0 ∧ z0 = []) ∨ ∃ x, a0 = some x ∧ len0 ≤ cap0 ∧ cap0 ≤ maxLen ∧ z0.length = cap0 ∧ (∀ i, i < z0.length → w.cell? (x.add i) = some (.int .u8 (z0.getD i 0))) ∧ ∀ n ∈ z0, (Lit.int .u8 n).wf = true) (y0 : len0 * 1 ≤ 140737488351232) :
  Calls Try.prog 5 #[.slice a0 len0 cap0] w fun e w' => e = .returned (.bool true) ∧ Below w.heap.size w w' := by
 obtain ⟨l0, rfl, hr0, hm0, hw0, hc0⟩ := ReadsInt.ofRowC w0
 obtain ⟨k, h⟩ := P l0 hm0 y0 hw0
 refine (laws_FnDovetailNarrow.calls k _ _ l0 true w (Kd.C_of_reads (d := (0 : Int)) (h1 := fun _ => rfl) hr0) hc0 h).mono ?_
 rintro e w' ⟨rfl, hd⟩
 exact ⟨rfl, hd⟩

end Go.Proofs.Ytbijdkmchdkgfaa.PFnDovetailNarrow
