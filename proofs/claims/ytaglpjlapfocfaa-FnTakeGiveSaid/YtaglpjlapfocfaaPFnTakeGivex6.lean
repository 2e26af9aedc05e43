-- printed by a program of this session (wip/printx) out of the translation; Lean checks it
import Derived.Test.YtaglpjlapfocfaaPFnTakeGivex0
import Derived.Test.YtaglpjlapfocfaaPFnTakeGivex2
import Derived.Test.YtaglpjlapfocfaaPFnTakeGivex3
namespace Go.Proofs.Ytaglpjlapfocfaa.PFnTakeGive
open Go.RowKit Go.Proofs.YtaglpjlapfocfaaW.PrintWords Go.Proofs.YtaglpjlapfocfaaW.PrintLast Go.Proofs.YtaglpjlapfocfaaW.PrintMore
attribute [local go_sem] max2_int min2_int max_two min_two max_three min_three max_four min_four   -- for this text's walks alone
set_option linter.unusedVariables false
set_option linter.unusedSimpArgs false

/-! ### spec_l16Copy: function 72 -/
def spec_l16Copy.f (a0_0 : Int) (l0_1 : List Int) : Option (Int × List Int) := (some (([] : List Int) : List Int)).bind fun y190 => (if y190.length + l0_1.length < 17592186044416 then (some (a0_0, (y190 ++ l0_1))) else (none))
def spec_l16Copy.T1 : Bool × List (List Nat × List Nat) := (true, [([], []), ([0], [0]), ([], []), ([], []), ([3], [3]), ([2, 4], [2, 4]), ([1, 5], [1, 5]), ([6, 5, 0, 1, 2, 3, 4, 5, 6], [6])])
def spec_l16Copy.B1 : List Nat := [0, 1, 0, 0, 8, 28, 63, 127]
theorem spec_l16Copy.tab1 : rtab .any (opsOf Try.f72 1) = spec_l16Copy.T1 := by kernel_rfl
theorem spec_l16Copy.bits1 : waitsOk spec_l16Copy.T1.2 spec_l16Copy.B1 = true := by kernel_rfl
set_option maxHeartbeats 8000000 in
set_option maxRecDepth 100000 in
theorem spec_l16Copy.calls (a0_0 : Int) (A0_1 : Option Addr) (c0_1 : Nat) (l0_1 : List Int) (r1 : Int) (r2 : List Int) (w : World) (hr0_1 : Kd.C (Kd.int .i64) w A0_1 l0_1.length l0_1) (hc0_1 : l0_1.length ≤ c0_1) (h : spec_l16Copy.f a0_0 l0_1 = some (r1, r2)) :
  Calls Try.prog 72 #[.agg #[.int .i64 a0_0, .slice A0_1 l0_1.length c0_1]] w fun e w' => ∃ v1_ : Value, e = .returned (.agg #[.int .i64 r1, v1_]) ∧ Kd.R (Kd.int .i64) 3 w' w.heap.size (fun _ => True) v1_ r2 ∧ Below w.heap.size w w' := by
 have hu24 := Try.underlying24
 have HR0_1 := Aside0.mk hr0_1
 have HC0_1 := Aside0.mk hc0_1
 clear hr0_1 hc0_1
 have HB := Aside0.mk (Below.refl w.heap.size w)
 have H : ((some (([] : List Int) : List Int)).bind fun y190 => (if y190.length + l0_1.length < 17592186044416 then (some (a0_0, (y190 ++ l0_1))) else (none))) = some (r1, r2) := h
 clear h
 obtain ⟨y190, hy190⟩ : ∃ y_ : List Int, y_ = (([] : List Int)) := ⟨_, rfl⟩
 replace H : (if y190.length + l0_1.length < 17592186044416 then (some (a0_0, (y190 ++ l0_1))) else (none)) = some (r1, r2) := by first | (rw [hy190]; with_reducible exact H) | (have H2_ := (Option.bind_some _ _).symm.trans H; rw [hy190]; with_reducible exact H2_) | (have H2_ := (Option.bind_some _ _).symm.trans H; with_reducible exact H2_) | with_reducible exact H | (rw [hy190]; exact H) | exact H
 have Ny190 := Aside0.mk hy190
 clear hy190
 by_cases c2 : y190.length + l0_1.length < 17592186044416
 ·rw [if_pos c2] at H
  have LMc2 := Aside0.mk c2
  clear c2
  obtain ⟨y193, hy193⟩ : ∃ y_ : List Int, y_ = (y190 ++ l0_1) := ⟨_, rfl⟩
  replace H : (some (a0_0, y193)) = some (r1, r2) := by first | (rw [hy193]; with_reducible exact H) | (have H2_ := (Option.bind_some _ _).symm.trans H; rw [hy193]; with_reducible exact H2_) | (have H2_ := (Option.bind_some _ _).symm.trans H; with_reducible exact H2_) | with_reducible exact H | (rw [hy193]; exact H) | exact H
  have Ny193 := Aside0.mk hy193
  clear hy193
  simp only [Option.some.injEq, Prod.mk.injEq] at H
  obtain ⟨rfl, rfl⟩ := H
  go_enter Try.func72, Try.ntmps72
  try go_wp2_with (first | ((with_reducible refine gate_dst (N := 1) rfl ?_); refine box_event ?hg (N := 1) ?hd (cs := #[.int .i64 a0_0, .slice A0_1 l0_1.length c0_1]) (t := 24) ?hr ?_; (case hd => rfl); (case hg => rfl); (case hr => first | (go_simp; done) | (go_simp; rfl)); intro gb188 hg w3 hbox hb; have n0_ := Aside0.mk (below_step (be_ HB) hb); have n1_ := Aside0.mk (hbox); have n2_ := Aside0.mk ((by rw [hg]; exact (below_size (be_ HB)) : w.heap.size ≤ gb188)); have n3_ := Aside0.mk ((by rw [hg]; exact (below_size (be_ HB)) : w.heap.size ≤ gb188)); clear HB; have HB := n0_; have BK188 := n1_; have GW188 := n2_; have GE188 := n3_; clear n0_ n1_ n2_ n3_; clear hb hbox hg) | ((with_reducible refine gate_dst (N := 2) rfl ?_); refine box_event ?hg (N := 2) ?hd (cs := #[.int .i64 0, .slice none 0 0]) (t := 24) ?hr ?_; (case hd => rfl); (case hg => rfl); (case hr => first | (go_simp; done) | (go_simp; rfl)); intro gb189 hg w4 hbox hb; have n0_ := Aside0.mk (blk_below (g := gb188) (o := .cells #[.int .i64 a0_0, .slice A0_1 l0_1.length c0_1] 24 (0, 0)) (bk_ BK188) hb); have n1_ := Aside0.mk (below_step (by repeat (first | (with_reducible first | exact HB.out | apply below_alloc | apply pw_below_drewN | apply below_drew1 | refine below_set ?_ GE188.out) | exact HB.out)) hb); have n2_ := Aside0.mk (hbox); have n3_ := Aside0.mk ((by rw [hg]; exact (below_size (by repeat (first | (with_reducible first | exact HB.out | apply below_alloc | apply pw_below_drewN | apply below_drew1 | refine below_set ?_ GE188.out) | exact HB.out))) : w.heap.size ≤ gb189)); have n4_ := Aside0.mk ((by rw [hg]; exact (below_size (by repeat (first | (with_reducible first | exact HB.out | apply below_alloc | apply pw_below_drewN | apply below_drew1 | refine below_set ?_ GE188.out) | exact HB.out))) : w.heap.size ≤ gb189)); have n5_ := Aside0.mk ((by rw [hg]; exact Nat.ne_of_lt (blk_lt (g := gb188) (o := .cells #[.int .i64 a0_0, .slice A0_1 l0_1.length c0_1] 24 (0, 0)) (bk_ BK188)) : gb188 ≠ gb189)); have n6_ := Aside0.mk ((by rw [hg]; exact Nat.ne_of_gt (blk_lt (g := gb188) (o := .cells #[.int .i64 a0_0, .slice A0_1 l0_1.length c0_1] 24 (0, 0)) (bk_ BK188)) : gb189 ≠ gb188)); clear BK188; clear HB; have BK188 := n0_; have HB := n1_; have BK189 := n2_; have GW189 := n3_; have GE189 := n4_; have NB188_189 := n5_; have NB189_188 := n6_; clear n0_ n1_ n2_ n3_ n4_ n5_ n6_; clear hb hbox hg))
  have n0_ := Aside0.mk (blk_drew BK188.out)
  have n1_ := Aside0.mk (blk_drew BK189.out)
  have n2_ := Aside0.mk (below_drew1 HB.out)
  clear BK188
  clear BK189
  clear HB
  have BK188 := n0_
  have BK189 := n1_
  have HB := n2_
  clear n0_ n1_ n2_
  refine start_ (n := 8) (S := fun w' => w'.cell? ⟨gb188, 0, none⟩ = some (.int .i64 a0_0) ∧ w'.cell? ⟨gb188, 1, none⟩ = some (.slice A0_1 l0_1.length c0_1)) (ds := []) (bs 8 0) (by kernel_rfl) rfl rfl ⟨(blk_cell BK188.out 0).trans rfl, (blk_cell BK188.out 1).trans rfl⟩ (fun hHeld => ?_); refine with_tabW spec_l16Copy.tab1 spec_l16Copy.bits1 (fun HT_ HW_ => ?_)
  generalize w4.drew = w5 at BK188 BK189 HB hHeld ⊢
  refine pure_s (i := 0) (N := some 3) (bs 8 1) (any_of HT_.out (by kernel_rfl)) (h := ?_)
  refine pure_s (i := 3) (N := some 6) #[oT,oF,oF,oT,oF,oF,oF,oF] (any_of HT_.out (by kernel_rfl)) (h := ?_)
  refine take_ (i := 1) (N := some 4) (v := ?_) (a' := ?_) #[oT,oT,oF,oT,oF,oF,oF,oF] rfl rfl (take_ofW HT_.out HW_.out (by kernel_rfl)) (fun _ _ _ h => h) (Or.inl ⟨by rfl, ?_⟩) hHeld ?_ ?_
  rotate_left
  ·rintro w' ⟨s0, s1⟩
   go_simp
   with_reducible rfl
  rotate_left
  ·simp only [Act.put, List.setIfInBounds_toArray, List.set_cons_zero, List.set_cons_succ, i64_w, i32_w]
   rfl
  refine take_ (i := 4) (N := some 7) (v := ?_) (a' := ?_) #[oT,oT,oF,oT,oT,oF,oF,oF] rfl rfl (take_ofW HT_.out HW_.out (by kernel_rfl)) (fun _ _ _ h => h) (Or.inl ⟨by rfl, ?_⟩) hHeld ?_ ?_
  rotate_left
  ·rintro w' ⟨s0, s1⟩
   go_simp
   with_reducible rfl
  rotate_left
  ·simp only [Act.put, List.setIfInBounds_toArray, List.set_cons_zero, List.set_cons_succ, i64_w, i32_w]
   rfl
  refine one_ (i := 2) (N := some 5) (bs 8 5) rfl rfl (one_of HT_.out (by kernel_rfl)) (by decide) (fun K hK => ?_)
  refine Kd.R_lit_step (Kd.int .i64) _ 3 ?hg (N := 5) ?hd (xs := ([] : List Int)) (inner := []) (ok := fun _ => True) (okp := fun _ => True) ?hr ?hp (fun _ hk => by first | exact hk | grind) trivial (Below.refl _ _) (Nat.le_refl _) (by simp) ?_; (case hd => rfl); (case hg => rfl); (case hr => first | (go_simp; done) | (go_simp; rfl)); (case hp => exact (Reps.none _ _))
  intro v191 w6 ho7 hb hg_ hnew_
  clear hg_ hnew_
  (first | rw [← Ny190.out] at ho7 | (simp only [Int.reduceToNat] at ho7; rw [← Ny190.out] at ho7))
  have n0_ := Aside0.mk (Kd.R_lower ho7 (below_size (by repeat (first | (with_reducible first | exact HB.out | apply below_alloc | apply pw_below_drewN | apply below_drew1 | refine below_set ?_ GE188.out | refine below_set ?_ GE189.out) | exact HB.out))))
  have n1_ := Aside0.mk (blk_below (g := gb188) (o := .cells #[.int .i64 a0_0, .slice A0_1 l0_1.length c0_1] 24 (0, 0)) (bk_ BK188) hb)
  have n2_ := Aside0.mk (blk_below (g := gb189) (o := .cells #[.int .i64 0, .slice none 0 0] 24 (0, 0)) (bk_ BK189) hb)
  have n3_ := Aside0.mk (below_step (by repeat (first | (with_reducible first | exact HB.out | apply below_alloc | apply pw_below_drewN | apply below_drew1 | refine below_set ?_ GE188.out | refine below_set ?_ GE189.out) | exact HB.out)) hb)
  clear BK188
  clear BK189
  clear HB
  have HO192 := n0_
  have BK188 := n1_
  have BK189 := n2_
  have HB := n3_
  clear n0_ n1_ n2_ n3_
  clear hb ho7
  refine hK.out _ _ ⟨(blk_cell BK188.out 0).trans rfl, (blk_cell BK188.out 1).trans rfl⟩ (fun hHeld => ?_)
  clear hK K
  refine norm_ (a' := ?_) ?_ ?_
  rotate_left
  ·show Act.put _ (some 5) _ = _
   simp only [Act.put, List.setIfInBounds_toArray, List.set_cons_zero, List.set_cons_succ, i64_w, i32_w]
   rfl
  refine one_ (i := 5) (N := some 8) (bs 8 6) rfl rfl (one_of HT_.out (by kernel_rfl)) (by decide) (fun K hK => ?_)
  refine Kd.R_append_rows_step (Kd.int .i64) (w0 := w) w.heap.size (by rfl) (.tmp 5) (.tmp 7) 22 3 (.int .i64 0) 8 rfl Try.underlying22 info3 rfl (by decide) (by omega) v191 y190 l0_1 _ _ _ (fun _ => True) (fun _ => False) rfl rfl ?aO ?aR (fun _ _ h => h) (fun _ h => h.elim) ?aF ?aB ?aS ?aL ?_
  (case aR => repeat (first | exact (Kd.C_below HR0_1.out HB.out) | (with_reducible refine Kd.C_alloc ?_ _) | (with_reducible refine Kd.C_drewN ?_ _) | (with_reducible refine Kd.C_drew ?_)))
  (case aB => exact (by repeat (first | (with_reducible first | exact HB.out | apply below_alloc | apply pw_below_drewN | apply below_drew1 | refine below_set ?_ GE188.out | refine below_set ?_ GE189.out) | exact HB.out)))
  (case aF => exact (fun _ _ => trivial))
  (case aO => exact (kr_ HO192))
  (case aS => exact (below_size (by repeat (first | (with_reducible first | exact HB.out | apply below_alloc | apply pw_below_drewN | apply below_drew1 | refine below_set ?_ GE188.out | refine below_set ?_ GE189.out) | exact HB.out))))
  (case aL => have := LMc2.out; omega)
  intro v194 w8 ho hb hg hat
  rw [← Ny193.out] at ho
  have n0_ := Aside0.mk (blk_grown (g := gb188) (o := .cells #[.int .i64 a0_0, .slice A0_1 l0_1.length c0_1] 24 (0, 0)) (bk_ BK188) hg (Kd.R_ne HO192.out BK188.out (by decide)))
  have n1_ := Aside0.mk (blk_grown (g := gb189) (o := .cells #[.int .i64 0, .slice none 0 0] 24 (0, 0)) (bk_ BK189) hg (Kd.R_ne HO192.out BK189.out (by decide)))
  have n2_ := Aside0.mk (hb)
  have n3_ := Aside0.mk (ho)
  clear BK188
  clear BK189
  clear HB
  clear HO192
  have BK188 := n0_
  have BK189 := n1_
  have HB := n2_
  have HO195 := n3_
  clear n0_ n1_ n2_ n3_
  clear ho hb hg hat
  obtain ⟨Ao9, co9, eo9⟩ := Kd.R_slice HO195.out
  (first | subst eo9 | (injection eo9 with f1_ f2_ f3_; have f4_ := f1_.symm; have f5_ := f3_.symm; clear f1_ f2_ f3_; subst f4_; subst f5_))
  refine hK.out _ _ ⟨(blk_cell BK188.out 0).trans rfl, (blk_cell BK188.out 1).trans rfl⟩ (fun hHeld => ?_)
  clear hK K
  refine norm_ (a' := ?_) ?_ ?_
  rotate_left
  ·show Act.put _ (some 8) _ = _
   simp only [Act.put, List.setIfInBounds_toArray, List.set_cons_zero, List.set_cons_succ, i64_w, i32_w]
   rfl
  refine pure_s (i := 6) (N := some 9) (bs 8 7) (any_of HT_.out (by kernel_rfl)) (h := ?_)
  refine one_ (i := 7) (N := none) (bs 8 8) rfl rfl (one_of HT_.out (by kernel_rfl)) (by decide) (fun K hK => ?_)
  have hs10 : w8.cell? ⟨gb189, 0, none⟩ = some (.int .i64 0) := (blk_cell BK189.out 0).trans rfl
  have hfs10 := blk_frozen BK189.out 0
  have hns10_0 := NB188_189.out
  have hms10_0 := NB189_188.out
  have hs11 : w8.cell? ⟨gb189, 1, none⟩ = some (.slice none 0 0) := (blk_cell BK189.out 1).trans rfl
  have hfs11 := blk_frozen BK189.out 1
  have hns11_0 := NB188_189.out
  have hms11_0 := NB189_188.out
  refine skip_ (w1 := ?_) (by rfl) rfl ?_ ?_
  rotate_left
  ·go_simp
   rfl
  refine hK.out _ _ ⟨((cell_far (p := ⟨gb189, _, none⟩) NB188_189.out _).trans (((cell_far (p := ⟨gb189, _, none⟩) NB188_189.out _).trans (hHeld.1)))), ((cell_far (p := ⟨gb189, _, none⟩) NB188_189.out _).trans (((cell_far (p := ⟨gb189, _, none⟩) NB188_189.out _).trans (hHeld.2))))⟩ (fun hHeld => ?_)
  clear hK K
  refine done_ (done_of HT_.out (by kernel_rfl)) ?_
  try go_wp2
  refine bodyPost_ret (results_cell_row rfl _ _ gb189 24 #[.int .i64 a0_0, .slice Ao9 y193.length co9] (0, 0) _ rfl (by (with_reducible repeat (first | refine blk_drewN ?_ _ | refine blk_drew ?_ | refine blk_alloc ?_ _)); refine blk_put (cs := #[.int .i64 a0_0, .slice none 0 0]) ?_ 1 _ rfl; (with_reducible repeat (first | refine blk_drewN ?_ _ | refine blk_drew ?_ | refine blk_alloc ?_ _)); refine blk_put (cs := #[.int .i64 0, .slice none 0 0]) ?_ 0 _ rfl; exact bk_ BK189) Try.underlying24 rfl (by kernel_rfl)) rfl ?_
  exact ⟨_, by first | rfl | (simp [errW_none, errW_some] <;> rfl) | (simp [*, errW_none, errW_some] <;> rfl), by (with_reducible repeat (first | apply Kd.R_alloc | apply Kd.R_drewN | apply Kd.R_drew)); exact Kd.R_mono (Kd.R_far (p := ⟨gb189, 1, none⟩) (Kd.R_far (p := ⟨gb189, 0, none⟩) (Kd.R_types HO195.out BK189.out (by decide)) (fun _ hk => by first | exact hk.2 | grind) (.int .i64 a0_0)) (fun _ hk => by first | exact hk.2 | grind) (.slice Ao9 y193.length co9)) (fun _ hk => by first | exact trivial | grind), by repeat (first | (with_reducible first | exact HB.out | apply below_alloc | apply pw_below_drewN | apply below_drew1 | refine below_set ?_ GE188.out | refine below_set ?_ GE189.out) | exact HB.out)⟩
 ·rw [if_neg c2] at H
  exact absurd H (by simp)

/-! ### spec_SlabTake: function 44 -/
def spec_SlabTake.j0 : Nat → Int → Bool → Int → List Int → Option (Int × List Int × Int × Int)
  | 0, _, _, _, _ => none
  | k + 1, x1, x15, x197000, x197001 => if x15 = true then (some (0, ([] : List Int), (-1), 1)) else ((spec_l16Walk.f k x197000 x197001 x197000).bind fun t199 => (if (t199.length : Int) < x1 then (some (0, ([] : List Int), (-1), 2)) else ((spec_l16Copy.f x197000 x197001).bind fun bt202 => (if 0 ≤ (wrap64 (x1 - 1)) then (if (wrap64 (x1 - 1)) < (t199.length : Int) then (if 0 ≤ (rd t199 (wrap64 (x1 - 1))) then (if (rd t199 (wrap64 (x1 - 1))) < (bt202.2.length : Int) then ((some (bt202.2.set ((rd t199 (wrap64 (x1 - 1))) : Int).toNat (-1) : List Int)).bind fun y208 => (if (t199.length : Int) > x1 then (if 0 ≤ x1 then (if x1 < (t199.length : Int) then (if 0 < (t199.length : Int) then (some (rd t199 x1, y208, rd t199 0, 0)) else (none)) else (none)) else (none)) else (if 0 < (t199.length : Int) then (some ((-1), y208, rd t199 0, 0)) else (none)))) else (none)) else (none)) else (none)) else (none)))))
def spec_SlabTake.f (k : Nat) (a0_0 : Int) (l0_1 : List Int) (a1 : Int) : Option (Int × List Int × Int × Int) := (spec_SlabOk.f k a0_0 l0_1).bind fun t198 => (if t198 = true then (spec_SlabTake.j0 k a1 (decide (a1 < 1)) a0_0 l0_1) else (spec_SlabTake.j0 k a1 true a0_0 l0_1))
theorem spec_SlabTake.mono_l : ∀ k, (∀ y0 y1 y2 y3, LeO (spec_SlabTake.j0 k y0 y1 y2 y3) (spec_SlabTake.j0 (k + 1) y0 y1 y2 y3))
 | 0 => fun _ _ _ _ r h => by simp [spec_SlabTake.j0] at h
 | k + 1 => by
  have ih0 := spec_SlabTake.mono_l k
  ·intro y0 y1 y2 y3
   unfold spec_SlabTake.j0
   repeat' first
   | (with_reducible exact ih0 _ _ _ _)
   | (with_reducible exact spec_SlabOk.mono _ _ _)
   | (with_reducible exact spec_l16Walk.mono _ _ _ _)
   | (with_reducible exact LeO.refl _)
   | (with_reducible exact LeO.none _)
   | (with_reducible refine LeO.ite ?_ ?_)
   | (with_reducible refine LeO.bind ?_ (fun _ => ?_))
   | exact ih0 _ _ _ _
   | exact spec_SlabOk.mono _ _ _
   | exact spec_l16Walk.mono _ _ _ _
   | exact LeO.none _
   | refine LeO.ite ?_ ?_
   | refine LeO.bind ?_ (fun _ => ?_)
theorem spec_SlabTake.mono : ∀ a0 a1 a2 k, LeO (spec_SlabTake.f k a0 a1 a2) (spec_SlabTake.f (k + 1) a0 a1 a2) := by
 intro a0 a1 a2 k
 have ih0 := spec_SlabTake.mono_l k
 unfold spec_SlabTake.f
 repeat' first
   | (with_reducible exact ih0 _ _ _ _)
   | (with_reducible exact spec_SlabOk.mono _ _ _)
   | (with_reducible exact spec_l16Walk.mono _ _ _ _)
   | (with_reducible exact LeO.refl _)
   | (with_reducible exact LeO.none _)
   | (with_reducible refine LeO.ite ?_ ?_)
   | (with_reducible refine LeO.bind ?_ (fun _ => ?_))
   | exact ih0 _ _ _ _
   | exact spec_SlabOk.mono _ _ _
   | exact spec_l16Walk.mono _ _ _ _
   | exact LeO.none _
   | refine LeO.ite ?_ ?_
   | refine LeO.bind ?_ (fun _ => ?_)
def spec_SlabTake.T7 : Bool × List (List Nat × List Nat) := (true, [([], []), ([0], [0]), ([], []), ([], []), ([3], [3]), ([2, 4], [2, 4]), ([5], [5]), ([1, 6, 0, 1, 2, 3, 4, 5, 6], [1, 6]), ([7, 0, 1, 2, 3, 4, 5, 6], [7])])
def spec_SlabTake.B7 : List Nat := [0, 1, 0, 0, 8, 28, 60, 127, 255]
theorem spec_SlabTake.tab7 : rtab .any (opsOf Try.f44 7) = spec_SlabTake.T7 := by kernel_rfl
theorem spec_SlabTake.bits7 : waitsOk spec_SlabTake.T7.2 spec_SlabTake.B7 = true := by kernel_rfl
set_option maxHeartbeats 8000000 in
set_option maxRecDepth 100000 in
theorem spec_SlabTake.calls (k : Nat) (a0_0 : Int) (A0_1 : Option Addr) (c0_1 : Nat) (l0_1 : List Int) (a1 : Int) (r1 : Int) (r2 : List Int) (r3 : Int) (r4 : Int) (w : World) (hr0_1 : Kd.C (Kd.int .i64) w A0_1 l0_1.length l0_1) (hc0_1 : l0_1.length ≤ c0_1) (h : spec_SlabTake.f k a0_0 l0_1 a1 = some (r1, r2, r3, r4)) :
  Calls Try.prog 44 #[.agg #[.int .i64 a0_0, .slice A0_1 l0_1.length c0_1], .int .i64 a1] w fun e w' => ∃ v1_ : Value, e = .returned (.tuple #[.agg #[.int .i64 r1, v1_], .int .i64 r3, .int .i64 r4]) ∧ Kd.R (Kd.int .i64) 3 w' w.heap.size (fun _ => True) v1_ r2 ∧ Below w.heap.size w w' := by
 have hu24 := Try.underlying24
 have HR0_1 := Aside0.mk hr0_1
 have HC0_1 := Aside0.mk hc0_1
 clear hr0_1 hc0_1
 have HB := Aside0.mk (Below.refl w.heap.size w)
 have H : ((spec_SlabOk.f k a0_0 l0_1).bind fun t198 => (if t198 = true then (spec_SlabTake.j0 k a1 (decide (a1 < 1)) a0_0 l0_1) else (spec_SlabTake.j0 k a1 true a0_0 l0_1))) = some (r1, r2, r3, r4) := h
 clear h
 have HC3 := Aside0.mk H
 clear H
 go_enter Try.func44, Try.ntmps44
 go_upto_region 1 with (first | ((with_reducible refine gate_dst (N := 2) rfl ?_); refine box_event ?hg (N := 2) ?hd (cs := #[.int .i64 a0_0, .slice A0_1 l0_1.length c0_1]) (t := 24) ?hr ?_; (case hd => rfl); (case hg => rfl); (case hr => first | (go_simp; done) | (go_simp; rfl)); intro gb196 hg w4 hbox hb; have n0_ := Aside0.mk (below_step (be_ HB) hb); have n1_ := Aside0.mk (hbox); have n2_ := Aside0.mk ((by rw [hg]; exact (below_size (be_ HB)) : w.heap.size ≤ gb196)); have n3_ := Aside0.mk ((by rw [hg]; exact (below_size (be_ HB)) : w.heap.size ≤ gb196)); clear HB; have HB := n0_; have BK196 := n1_; have GW196 := n2_; have GE196 := n3_; clear n0_ n1_ n2_ n3_; clear hb hbox hg) | ((with_reducible refine gate_dst (N := 4) rfl ?_); refine box_event ?hg (N := 4) ?hd (cs := #[.int .i64 0, .slice none 0 0]) (t := 24) ?hr ?_; (case hd => rfl); (case hg => rfl); (case hr => first | (go_simp; done) | (go_simp; rfl)); intro gb197 hg w5 hbox hb; have n0_ := Aside0.mk (blk_below (g := gb196) (o := .cells #[.int .i64 a0_0, .slice A0_1 l0_1.length c0_1] 24 (0, 0)) (bk_ BK196) hb); have n1_ := Aside0.mk (below_step (by repeat (first | (with_reducible first | exact HB.out | apply below_alloc | apply pw_below_drewN | apply below_drew1 | refine below_set ?_ GE196.out) | exact HB.out)) hb); have n2_ := Aside0.mk (hbox); have n3_ := Aside0.mk ((by rw [hg]; exact (below_size (by repeat (first | (with_reducible first | exact HB.out | apply below_alloc | apply pw_below_drewN | apply below_drew1 | refine below_set ?_ GE196.out) | exact HB.out))) : w.heap.size ≤ gb197)); have n4_ := Aside0.mk ((by rw [hg]; exact (below_size (by repeat (first | (with_reducible first | exact HB.out | apply below_alloc | apply pw_below_drewN | apply below_drew1 | refine below_set ?_ GE196.out) | exact HB.out))) : w.heap.size ≤ gb197)); have n5_ := Aside0.mk ((by rw [hg]; exact Nat.ne_of_lt (blk_lt (g := gb196) (o := .cells #[.int .i64 a0_0, .slice A0_1 l0_1.length c0_1] 24 (0, 0)) (bk_ BK196)) : gb196 ≠ gb197)); have n6_ := Aside0.mk ((by rw [hg]; exact Nat.ne_of_gt (blk_lt (g := gb196) (o := .cells #[.int .i64 a0_0, .slice A0_1 l0_1.length c0_1] 24 (0, 0)) (bk_ BK196)) : gb197 ≠ gb196)); clear BK196; clear HB; have BK196 := n0_; have HB := n1_; have BK197 := n2_; have GW197 := n3_; have GE197 := n4_; have NB196_197 := n5_; have NB197_196 := n6_; clear n0_ n1_ n2_ n3_ n4_ n5_ n6_; clear hb hbox hg))
 (try simp only [Act.put, List.setIfInBounds_toArray, List.set_cons_zero, List.set_cons_succ])
 go_cut [15] (fun v15 wc => ∃ (kq : Nat) (x15_2 : Bool), v15 = .bool x15_2 ∧ Aside0 (spec_SlabTake.j0 kq a1 x15_2 a0_0 l0_1 = some (r1, r2, r3, r4)) ∧ Aside0 (kq ≤ k) ∧ Aside0 (wc.heap[gb196]? = some (.cells #[.int .i64 a0_0, (.slice A0_1 l0_1.length c0_1)] 24 (0, 0))) ∧ Aside0 (wc.heap[gb197]? = some (.cells #[.int .i64 0, (.slice none 0 0)] 24 (0, 0))) ∧ Aside0 (Below w.heap.size w wc))
 case first =>
  have H := HC3.out
  clear HC3
  replace H := Option.bind_eq_some_iff.mp H
  obtain ⟨t198, A60, H⟩ := H
  replace H : (if t198 = true then (spec_SlabTake.j0 k a1 (decide (a1 < 1)) a0_0 l0_1) else (spec_SlabTake.j0 k a1 true a0_0 l0_1)) = some (r1, r2, r3, r4) := H
  have A6 := Aside0.mk A60
  clear A60
  by_cases c7 : t198 = true
  ·subst c7
   have H1 : (spec_SlabTake.j0 k a1 (decide (a1 < 1)) a0_0 l0_1) = some (r1, r2, r3, r4) := by rw [if_pos rfl] at H; exact H
   clear H
   have H := H1
   clear H1
   have H' := Aside0.mk H
   clear H
   have hnb8 := NB196_197.out
   have hnc8 := NB197_196.out
   have hcz9_0 : w5.cell? ⟨gb196, 0, none⟩ = some (.int .i64 a0_0) := (blk_cell BK196.out 0).trans rfl
   have hcz9_1 : w5.cell? ⟨gb196, 1, none⟩ = some (.slice A0_1 l0_1.length c0_1) := (blk_cell BK196.out 1).trans rfl
   have hfz9_0 := blk_frozen BK196.out 0
   have hfz9_1 := blk_frozen BK196.out 1
   go_wp2_with (first | ((with_reducible refine gate_callee (f := 23) rfl ?_); refine goesL_ (some 10) rfl rfl Try.func23 (by kernel_rfl) rfl #[.agg #[.int .i64 a0_0, .slice A0_1 l0_1.length c0_1]] rfl mt_ ?_; (with_reducible refine (spec_SlabOk.calls k a0_0 _ _ l0_1 true _ ?side1 ?side2 A6.out).mono ?_); (case side1 => repeat (first | exact (Kd.C_below HR0_1.out HB.out) | (with_reducible refine Kd.C_alloc ?_ _) | (with_reducible refine Kd.C_drewN ?_ _) | (with_reducible refine Kd.C_drew ?_))); (case side2 => exact HC0_1.out); rintro e w10 ⟨rfl, hb⟩; refine ⟨_, rfl, ?_⟩; have n0_ := Aside0.mk (blk_below (g := gb196) (o := .cells #[.int .i64 a0_0, .slice A0_1 l0_1.length c0_1] 24 (0, 0)) (bk_ BK196) hb); have n1_ := Aside0.mk (blk_below (g := gb197) (o := .cells #[.int .i64 0, .slice none 0 0] 24 (0, 0)) (bk_ BK197) hb); have n2_ := Aside0.mk (below_step (by repeat (first | (with_reducible first | exact HB.out | apply below_alloc | apply pw_below_drewN | apply below_drew1 | refine below_set ?_ GE196.out | refine below_set ?_ GE197.out) | exact HB.out)) hb); clear BK196; clear BK197; clear HB; have BK196 := n0_; have BK197 := n1_; have HB := n2_; clear n0_ n1_ n2_; (try clear hb); (try clear hb2); (try clear hk); (try clear hi)))
   go_meet
   case rel => exact ⟨_, (decide (a1 < 1)), (by first | rfl | (simp; done) | (simp [*]; done)), H', ⟨by first | omega | exact Nat.le_refl _⟩, ⟨bk_ BK196⟩, ⟨bk_ BK197⟩, ⟨by repeat (first | (with_reducible first | exact HB.out | apply below_alloc | apply pw_below_drewN | apply below_drew1 | refine below_set ?_ GE196.out | refine below_set ?_ GE197.out) | exact HB.out)⟩⟩
  ·replace c7 := Bool.eq_false_iff.mpr c7
   subst c7
   have H1 : (spec_SlabTake.j0 k a1 true a0_0 l0_1) = some (r1, r2, r3, r4) := by rw [if_neg (show ¬ (false = true) by decide)] at H; exact H
   clear H
   have H := H1
   clear H1
   have H' := Aside0.mk H
   clear H
   have hnb11 := NB196_197.out
   have hnc11 := NB197_196.out
   have hcz12_0 : w5.cell? ⟨gb196, 0, none⟩ = some (.int .i64 a0_0) := (blk_cell BK196.out 0).trans rfl
   have hcz12_1 : w5.cell? ⟨gb196, 1, none⟩ = some (.slice A0_1 l0_1.length c0_1) := (blk_cell BK196.out 1).trans rfl
   have hfz12_0 := blk_frozen BK196.out 0
   have hfz12_1 := blk_frozen BK196.out 1
   go_wp2_with (first | ((with_reducible refine gate_callee (f := 23) rfl ?_); refine goesL_ (some 10) rfl rfl Try.func23 (by kernel_rfl) rfl #[.agg #[.int .i64 a0_0, .slice A0_1 l0_1.length c0_1]] rfl mt_ ?_; (with_reducible refine (spec_SlabOk.calls k a0_0 _ _ l0_1 false _ ?side1 ?side2 A6.out).mono ?_); (case side1 => repeat (first | exact (Kd.C_below HR0_1.out HB.out) | (with_reducible refine Kd.C_alloc ?_ _) | (with_reducible refine Kd.C_drewN ?_ _) | (with_reducible refine Kd.C_drew ?_))); (case side2 => exact HC0_1.out); rintro e w13 ⟨rfl, hb⟩; refine ⟨_, rfl, ?_⟩; have n0_ := Aside0.mk (blk_below (g := gb196) (o := .cells #[.int .i64 a0_0, .slice A0_1 l0_1.length c0_1] 24 (0, 0)) (bk_ BK196) hb); have n1_ := Aside0.mk (blk_below (g := gb197) (o := .cells #[.int .i64 0, .slice none 0 0] 24 (0, 0)) (bk_ BK197) hb); have n2_ := Aside0.mk (below_step (by repeat (first | (with_reducible first | exact HB.out | apply below_alloc | apply pw_below_drewN | apply below_drew1 | refine below_set ?_ GE196.out | refine below_set ?_ GE197.out) | exact HB.out)) hb); clear BK196; clear BK197; clear HB; have BK196 := n0_; have BK197 := n1_; have HB := n2_; clear n0_ n1_ n2_; (try clear hb); (try clear hb2); (try clear hk); (try clear hi)))
   go_meet
   case rel => exact ⟨_, (true), (by first | rfl | (simp; done) | (simp [*]; done)), H', ⟨by first | omega | exact Nat.le_refl _⟩, ⟨bk_ BK196⟩, ⟨bk_ BK197⟩, ⟨by repeat (first | (with_reducible first | exact HB.out | apply below_alloc | apply pw_below_drewN | apply below_drew1 | refine below_set ?_ GE196.out | refine below_set ?_ GE197.out) | exact HB.out)⟩⟩
 case rest =>
  clear HC3
  try clear c1
  try clear c2
  try clear p2
  try clear c4
  try clear c7
  try clear c8
  try clear c11
  try clear hcz12_0
  try clear hcz12_1
  try clear hcz9_0
  try clear hcz9_1
  try clear hfz12_0
  try clear hfz12_1
  try clear hfz9_0
  try clear hfz9_1
  obtain ⟨kq, x15_2, rfl, HA, HJ2, BK196, BK197, HB⟩ := hcut
  cases kq with
  | zero => exact absurd HA.out (by simp [spec_SlabTake.j0])
  | succ kj2 =>
   have H := HA.out
   clear HA
   simp only [spec_SlabTake.j0] at H
   by_cases c14 : x15_2 = true
   ·subst c14
    have H1 : (some (0, ([] : List Int), (-1), 1)) = some (r1, r2, r3, r4) := by rw [if_pos rfl] at H; exact H
    clear H
    have H := H1
    clear H1
    simp only [Option.some.injEq, Prod.mk.injEq] at H
    obtain ⟨rfl, rfl, rfl, rfl⟩ := H
    have hnb15 := NB197_196.out
    have hnc15 := NB196_197.out
    have hcz16_0 : wc.cell? ⟨gb197, 0, none⟩ = some (.int .i64 0) := (blk_cell BK197.out 0).trans rfl
    have hcz16_1 : wc.cell? ⟨gb197, 1, none⟩ = some (.slice none 0 0) := (blk_cell BK197.out 1).trans rfl
    have hfz16_0 := blk_frozen BK197.out 0
    have hfz16_1 := blk_frozen BK197.out 1
    go_wp2
    refine bodyPost_ret (results_ctt rfl _ _ gb197 24 #[.int .i64 0, .slice none 0 0] (0, 0) _ rfl (by (with_reducible repeat (first | refine blk_drewN ?_ _ | refine blk_drew ?_ | refine blk_alloc ?_ _)); refine blk_put (cs := #[.int .i64 0, .slice none 0 0]) ?_ 1 _ rfl; (with_reducible repeat (first | refine blk_drewN ?_ _ | refine blk_drew ?_ | refine blk_alloc ?_ _)); refine blk_put (cs := #[.int .i64 0, .slice none 0 0]) ?_ 0 _ rfl; exact bk_ BK197) Try.underlying24 rfl (by kernel_rfl)) rfl ?_
    exact ⟨_, by first | rfl | (simp [errW_none, errW_some] <;> rfl) | (simp [*, errW_none, errW_some] <;> rfl), by first | exact Kd.R_nil _ _ _ _ _ | exact Kd.N_nil _ _ _ _ _ | exact Kd.V_nil _ _ _ _ _ | exact Kd.Q_nil _ _ _ _ _ | exact Kd.S_nil _ _ _ _ _, by repeat (first | (with_reducible first | exact HB.out | apply below_alloc | apply pw_below_drewN | apply below_drew1 | refine below_set ?_ GE196.out | refine below_set ?_ GE197.out) | exact HB.out)⟩
   ·replace c14 := Bool.eq_false_iff.mpr c14
    subst c14
    have H1 : ((spec_l16Walk.f kj2 a0_0 l0_1 a0_0).bind fun t199 => (if (t199.length : Int) < a1 then (some (0, ([] : List Int), (-1), 2)) else ((spec_l16Copy.f a0_0 l0_1).bind fun bt202 => (if 0 ≤ (wrap64 (a1 - 1)) then (if (wrap64 (a1 - 1)) < (t199.length : Int) then (if 0 ≤ (rd t199 (wrap64 (a1 - 1))) then (if (rd t199 (wrap64 (a1 - 1))) < (bt202.2.length : Int) then ((some (bt202.2.set ((rd t199 (wrap64 (a1 - 1))) : Int).toNat (-1) : List Int)).bind fun y208 => (if (t199.length : Int) > a1 then (if 0 ≤ a1 then (if a1 < (t199.length : Int) then (if 0 < (t199.length : Int) then (some (rd t199 a1, y208, rd t199 0, 0)) else (none)) else (none)) else (none)) else (if 0 < (t199.length : Int) then (some ((-1), y208, rd t199 0, 0)) else (none)))) else (none)) else (none)) else (none)) else (none))))) = some (r1, r2, r3, r4) := by rw [if_neg (show ¬ (false = true) by decide)] at H; exact H
    clear H
    have H := H1
    clear H1
    replace H := Option.bind_eq_some_iff.mp H
    obtain ⟨t199, A170, H⟩ := H
    replace H : (if (t199.length : Int) < a1 then (some (0, ([] : List Int), (-1), 2)) else ((spec_l16Copy.f a0_0 l0_1).bind fun bt202 => (if 0 ≤ (wrap64 (a1 - 1)) then (if (wrap64 (a1 - 1)) < (t199.length : Int) then (if 0 ≤ (rd t199 (wrap64 (a1 - 1))) then (if (rd t199 (wrap64 (a1 - 1))) < (bt202.2.length : Int) then ((some (bt202.2.set ((rd t199 (wrap64 (a1 - 1))) : Int).toNat (-1) : List Int)).bind fun y208 => (if (t199.length : Int) > a1 then (if 0 ≤ a1 then (if a1 < (t199.length : Int) then (if 0 < (t199.length : Int) then (some (rd t199 a1, y208, rd t199 0, 0)) else (none)) else (none)) else (none)) else (if 0 < (t199.length : Int) then (some ((-1), y208, rd t199 0, 0)) else (none)))) else (none)) else (none)) else (none)) else (none)))) = some (r1, r2, r3, r4) := H
    have A17 := Aside0.mk A170
    clear A170
    by_cases c18 : (t199.length : Int) < a1
    ·rw [if_pos c18] at H
     have c18b0 : decide ((t199.length : Int) < a1) = true := decide_eq_true c18
     clear c18
     simp only [Option.some.injEq, Prod.mk.injEq] at H
     obtain ⟨rfl, rfl, rfl, rfl⟩ := H
     have hnb19 := NB196_197.out
     have hnc19 := NB197_196.out
     have hcz20_0 : wc.cell? ⟨gb196, 0, none⟩ = some (.int .i64 a0_0) := (blk_cell BK196.out 0).trans rfl
     have hcz20_1 : wc.cell? ⟨gb196, 1, none⟩ = some (.slice A0_1 l0_1.length c0_1) := (blk_cell BK196.out 1).trans rfl
     have hfz20_0 := blk_frozen BK196.out 0
     have hfz20_1 := blk_frozen BK196.out 1
     go_wp2_with (first | ((with_reducible refine gate_callee (f := 70) rfl ?_); refine goesL_ (some 20) rfl rfl Try.func70 (by kernel_rfl) rfl #[.agg #[.int .i64 a0_0, .slice A0_1 l0_1.length c0_1], .int .i64 a0_0] rfl mt_ ?_; (with_reducible refine (spec_l16Walk.calls kj2 a0_0 _ _ l0_1 a0_0 t199 _ ?side1 ?side2 A17.out).mono ?_); (case side1 => repeat (first | exact (Kd.C_below HR0_1.out HB.out) | (with_reducible refine Kd.C_alloc ?_ _) | (with_reducible refine Kd.C_drewN ?_ _) | (with_reducible refine Kd.C_drew ?_))); (case side2 => exact HC0_1.out); rintro e w21 ⟨v200, rfl, ho0, hb⟩; refine ⟨_, rfl, ?_⟩; have n0_ := Aside0.mk (Kd.R_lower ho0 (below_size (by repeat (first | (with_reducible first | exact HB.out | apply below_alloc | apply pw_below_drewN | apply below_drew1 | refine below_set ?_ GE196.out | refine below_set ?_ GE197.out) | exact HB.out)))); have n1_ := Aside0.mk (blk_below (g := gb196) (o := .cells #[.int .i64 a0_0, .slice A0_1 l0_1.length c0_1] 24 (0, 0)) (bk_ BK196) hb); have n2_ := Aside0.mk (blk_below (g := gb197) (o := .cells #[.int .i64 0, .slice none 0 0] 24 (0, 0)) (bk_ BK197) hb); have n3_ := Aside0.mk (below_step (by repeat (first | (with_reducible first | exact HB.out | apply below_alloc | apply pw_below_drewN | apply below_drew1 | refine below_set ?_ GE196.out | refine below_set ?_ GE197.out) | exact HB.out)) hb); clear BK196; clear BK197; clear HB; have HO201 := n0_; have BK196 := n1_; have BK197 := n2_; have HB := n3_; clear n0_ n1_ n2_ n3_; (try clear hb); (try clear hb2); (try clear hk); (try clear hi); (try clear ho0); obtain ⟨Ao22, co22, eo22⟩ := Kd.R_slice HO201.out; subst eo22; have hcz23_0 : w21.cell? ⟨gb197, 0, none⟩ = some (.int .i64 0) := (blk_cell BK197.out 0).trans rfl; have hcz23_1 : w21.cell? ⟨gb197, 1, none⟩ = some (.slice none 0 0) := (blk_cell BK197.out 1).trans rfl; have hfz23_0 := blk_frozen BK197.out 0; have hfz23_1 := blk_frozen BK197.out 1))
     refine bodyPost_ret (results_ctt rfl _ _ gb197 24 #[.int .i64 0, .slice none 0 0] (0, 0) _ rfl (by (with_reducible repeat (first | refine blk_drewN ?_ _ | refine blk_drew ?_ | refine blk_alloc ?_ _)); refine blk_put (cs := #[.int .i64 0, .slice none 0 0]) ?_ 1 _ rfl; (with_reducible repeat (first | refine blk_drewN ?_ _ | refine blk_drew ?_ | refine blk_alloc ?_ _)); refine blk_put (cs := #[.int .i64 0, .slice none 0 0]) ?_ 0 _ rfl; exact bk_ BK197) Try.underlying24 rfl (by kernel_rfl)) rfl ?_
     exact ⟨_, by first | rfl | (simp [errW_none, errW_some] <;> rfl) | (simp [*, errW_none, errW_some] <;> rfl), by first | exact Kd.R_nil _ _ _ _ _ | exact Kd.N_nil _ _ _ _ _ | exact Kd.V_nil _ _ _ _ _ | exact Kd.Q_nil _ _ _ _ _ | exact Kd.S_nil _ _ _ _ _, by repeat (first | (with_reducible first | exact HB.out | apply below_alloc | apply pw_below_drewN | apply below_drew1 | refine below_set ?_ GE196.out | refine below_set ?_ GE197.out) | exact HB.out)⟩
    ·rw [if_neg c18] at H
     have c18b0 : decide ((t199.length : Int) < a1) = false := decide_eq_false c18
     clear c18
     replace H := Option.bind_eq_some_iff.mp H
     obtain ⟨⟨t202, t203⟩, A240, H⟩ := H
     replace H : (if 0 ≤ (wrap64 (a1 - 1)) then (if (wrap64 (a1 - 1)) < (t199.length : Int) then (if 0 ≤ (rd t199 (wrap64 (a1 - 1))) then (if (rd t199 (wrap64 (a1 - 1))) < (t203.length : Int) then ((some (t203.set ((rd t199 (wrap64 (a1 - 1))) : Int).toNat (-1) : List Int)).bind fun y208 => (if (t199.length : Int) > a1 then (if 0 ≤ a1 then (if a1 < (t199.length : Int) then (if 0 < (t199.length : Int) then (some (rd t199 a1, y208, rd t199 0, 0)) else (none)) else (none)) else (none)) else (if 0 < (t199.length : Int) then (some ((-1), y208, rd t199 0, 0)) else (none)))) else (none)) else (none)) else (none)) else (none)) = some (r1, r2, r3, r4) := H
     have A24 := Aside0.mk A240
     clear A240
     obtain ⟨ji25, hji25⟩ : ∃ j_ : Int, (wrap64 (a1 - 1)) = j_ := ⟨_, rfl⟩
     replace H : (if 0 ≤ (ji25) then (if (ji25) < (t199.length : Int) then (if 0 ≤ (rd t199 (ji25)) then (if (rd t199 (ji25)) < (t203.length : Int) then ((some (t203.set ((rd t199 (ji25)) : Int).toNat (-1) : List Int)).bind fun y208 => (if (t199.length : Int) > a1 then (if 0 ≤ a1 then (if a1 < (t199.length : Int) then (if 0 < (t199.length : Int) then (some (rd t199 a1, y208, rd t199 0, 0)) else (none)) else (none)) else (none)) else (if 0 < (t199.length : Int) then (some ((-1), y208, rd t199 0, 0)) else (none)))) else (none)) else (none)) else (none)) else (none)) = some (r1, r2, r3, r4) := by first | (rw [hji25] at H; exact H) | (simp only [hji25] at H ⊢; exact H)
     (try rw [hji25] at A17)
     (try rw [hji25] at A24)
     have hji25w : (IntKind.i64.wrap (a1 - 1)) = ji25 := (i64_w _).trans hji25
     by_cases c26 : 0 ≤ (ji25)
     ·rw [if_pos c26] at H
      have c26b0 : decide (0 ≤ (ji25)) = true := decide_eq_true c26
      clear c26
      by_cases c27 : (ji25) < (t199.length : Int)
      ·rw [if_pos c27] at H
       have c27b0 : decide ((ji25) < (t199.length : Int)) = true := decide_eq_true c27
       clear c27
       by_cases c28 : 0 ≤ (rd t199 (ji25))
       ·rw [if_pos c28] at H
        have c28b0 : decide (0 ≤ (rd t199 (ji25))) = true := decide_eq_true c28
        clear c28
        by_cases c29 : (rd t199 (ji25)) < (t203.length : Int)
        ·rw [if_pos c29] at H
         have c29b0 : decide ((rd t199 (ji25)) < (t203.length : Int)) = true := decide_eq_true c29
         clear c29
         obtain ⟨y208, hy208⟩ : ∃ y_ : List Int, y_ = (t203.set ((rd t199 (ji25)) : Int).toNat (-1)) := ⟨_, rfl⟩
         replace H : (if (t199.length : Int) > a1 then (if 0 ≤ a1 then (if a1 < (t199.length : Int) then (if 0 < (t199.length : Int) then (some (rd t199 a1, y208, rd t199 0, 0)) else (none)) else (none)) else (none)) else (if 0 < (t199.length : Int) then (some ((-1), y208, rd t199 0, 0)) else (none))) = some (r1, r2, r3, r4) := by first | (rw [hy208]; with_reducible exact H) | (have H2_ := (Option.bind_some _ _).symm.trans H; rw [hy208]; with_reducible exact H2_) | (have H2_ := (Option.bind_some _ _).symm.trans H; with_reducible exact H2_) | with_reducible exact H | (rw [hy208]; exact H) | exact H
         have Ny208 := Aside0.mk hy208
         clear hy208
         by_cases c31 : (t199.length : Int) > a1
         ·rw [if_pos c31] at H
          have c31b0 : decide (a1 < (t199.length : Int)) = true := decide_eq_true c31
          clear c31
          by_cases c32 : 0 ≤ a1
          ·rw [if_pos c32] at H
           have c32b0 : decide (0 ≤ a1) = true := decide_eq_true c32
           clear c32
           by_cases c33 : a1 < (t199.length : Int)
           ·rw [if_pos c33] at H
            have c33b0 : decide (a1 < (t199.length : Int)) = true := decide_eq_true c33
            clear c33
            by_cases c34 : 0 < (t199.length : Int)
            ·rw [if_pos c34] at H
             have c34b0 : decide (0 < (t199.length : Int)) = true := decide_eq_true c34
             have c34b1 : decide (0 < t199.length) = true := decide_eq_true (by omega)
             clear c34
             simp only [Option.some.injEq, Prod.mk.injEq] at H
             obtain ⟨rfl, rfl, rfl, rfl⟩ := H
             have hnb35 := NB196_197.out
             have hnc35 := NB197_196.out
             have hcz36_0 : wc.cell? ⟨gb196, 0, none⟩ = some (.int .i64 a0_0) := (blk_cell BK196.out 0).trans rfl
             have hcz36_1 : wc.cell? ⟨gb196, 1, none⟩ = some (.slice A0_1 l0_1.length c0_1) := (blk_cell BK196.out 1).trans rfl
             have hfz36_0 := blk_frozen BK196.out 0
             have hfz36_1 := blk_frozen BK196.out 1
             try go_wp2_with (first | ((with_reducible refine gate_callee (f := 70) rfl ?_); refine goesL_ (some 20) rfl rfl Try.func70 (by kernel_rfl) rfl #[.agg #[.int .i64 a0_0, .slice A0_1 l0_1.length c0_1], .int .i64 a0_0] rfl mt_ ?_; (with_reducible refine (spec_l16Walk.calls kj2 a0_0 _ _ l0_1 a0_0 t199 _ ?side1 ?side2 A17.out).mono ?_); (case side1 => repeat (first | exact (Kd.C_below HR0_1.out HB.out) | (with_reducible refine Kd.C_alloc ?_ _) | (with_reducible refine Kd.C_drewN ?_ _) | (with_reducible refine Kd.C_drew ?_))); (case side2 => exact HC0_1.out); rintro e w37 ⟨v200, rfl, ho0, hb⟩; refine ⟨_, rfl, ?_⟩; have n0_ := Aside0.mk (Kd.R_lower ho0 (below_size (by repeat (first | (with_reducible first | exact HB.out | apply below_alloc | apply pw_below_drewN | apply below_drew1 | refine below_set ?_ GE196.out | refine below_set ?_ GE197.out) | exact HB.out)))); have n1_ := Aside0.mk (blk_below (g := gb196) (o := .cells #[.int .i64 a0_0, .slice A0_1 l0_1.length c0_1] 24 (0, 0)) (bk_ BK196) hb); have n2_ := Aside0.mk (blk_below (g := gb197) (o := .cells #[.int .i64 0, .slice none 0 0] 24 (0, 0)) (bk_ BK197) hb); have n3_ := Aside0.mk (below_step (by repeat (first | (with_reducible first | exact HB.out | apply below_alloc | apply pw_below_drewN | apply below_drew1 | refine below_set ?_ GE196.out | refine below_set ?_ GE197.out) | exact HB.out)) hb); clear BK196; clear BK197; clear HB; have HO201 := n0_; have BK196 := n1_; have BK197 := n2_; have HB := n3_; clear n0_ n1_ n2_ n3_; (try clear hb); (try clear hb2); (try clear hk); (try clear hi); (try clear ho0); obtain ⟨Ao38, co38, eo38⟩ := Kd.R_slice HO201.out; subst eo38; have hcz39_0 : w37.cell? ⟨gb196, 0, none⟩ = some (.int .i64 a0_0) := (blk_cell BK196.out 0).trans rfl; have hcz39_1 : w37.cell? ⟨gb196, 1, none⟩ = some (.slice A0_1 l0_1.length c0_1) := (blk_cell BK196.out 1).trans rfl; have hfz39_0 := blk_frozen BK196.out 0; have hfz39_1 := blk_frozen BK196.out 1) | ((with_reducible refine gate_callee (f := 72) rfl ?_); refine goesL_ (some 27) rfl rfl Try.func72 (by kernel_rfl) rfl #[.agg #[.int .i64 a0_0, .slice A0_1 l0_1.length c0_1]] rfl mt_ ?_; (with_reducible refine (spec_l16Copy.calls a0_0 _ _ l0_1 t202 t203 _ ?side1 ?side2 A24.out).mono ?_); (case side1 => repeat (first | exact (Kd.C_below HR0_1.out HB.out) | (with_reducible refine Kd.C_alloc ?_ _) | (with_reducible refine Kd.C_drewN ?_ _) | (with_reducible refine Kd.C_drew ?_))); (case side2 => exact HC0_1.out); rintro e w40 ⟨v204, rfl, ho0, hb⟩; refine ⟨_, rfl, ?_⟩; have n0_ := Aside0.mk (Kd.R_elder' (kr_ HO201) (Kd.R_base ho0) hb); have n1_ := Aside0.mk (Kd.R_lower (Kd.R_new' ho0 (Kd.R_lt (kr_ HO201))) (below_size (by repeat (first | (with_reducible first | exact HB.out | apply below_alloc | apply pw_below_drewN | apply below_drew1 | refine below_set ?_ GE196.out | refine below_set ?_ GE197.out) | exact HB.out)))); have n2_ := Aside0.mk (blk_below (g := gb196) (o := .cells #[.int .i64 a0_0, .slice A0_1 l0_1.length c0_1] 24 (0, 0)) (bk_ BK196) hb); have n3_ := Aside0.mk (blk_below (g := gb197) (o := .cells #[.int .i64 0, .slice none 0 0] 24 (0, 0)) (bk_ BK197) hb); have n4_ := Aside0.mk (below_step (by repeat (first | (with_reducible first | exact HB.out | apply below_alloc | apply pw_below_drewN | apply below_drew1 | refine below_set ?_ GE196.out | refine below_set ?_ GE197.out) | exact HB.out)) hb); clear HO201; clear BK196; clear BK197; clear HB; have HO201 := n0_; have HO205 := n1_; have BK196 := n2_; have BK197 := n3_; have HB := n4_; clear n0_ n1_ n2_ n3_ n4_; (try clear hb); (try clear hb2); (try clear hk); (try clear hi); (try clear ho0)) | ((with_reducible refine gate_dst (N := 8) rfl ?_); refine box_event ?hg (N := 8) ?hd (cs := #[.int .i64 0, .slice none 0 0]) (t := 24) ?hr ?_; (case hd => rfl); (case hg => rfl); (case hr => first | (go_simp; done) | (go_simp; rfl)); intro gb206 hg w41 hbox hb; have n0_ := Aside0.mk (Kd.R_below (kr_ HO201) hb); have n1_ := Aside0.mk (Kd.R_below (kr_ HO205) hb); have n2_ := Aside0.mk (blk_below (g := gb196) (o := .cells #[.int .i64 a0_0, .slice A0_1 l0_1.length c0_1] 24 (0, 0)) (bk_ BK196) hb); have n3_ := Aside0.mk (blk_below (g := gb197) (o := .cells #[.int .i64 0, .slice none 0 0] 24 (0, 0)) (bk_ BK197) hb); have n4_ := Aside0.mk (below_step (by repeat (first | (with_reducible first | exact HB.out | apply below_alloc | apply pw_below_drewN | apply below_drew1 | refine below_set ?_ GE196.out | refine below_set ?_ GE197.out) | exact HB.out)) hb); have n5_ := Aside0.mk (hbox); have n6_ := Aside0.mk ((by rw [hg]; exact (below_size (by repeat (first | (with_reducible first | exact HB.out | apply below_alloc | apply pw_below_drewN | apply below_drew1 | refine below_set ?_ GE196.out | refine below_set ?_ GE197.out) | exact HB.out))) : w.heap.size ≤ gb206)); have n7_ := Aside0.mk ((by rw [hg]; exact (below_size (by repeat (first | (with_reducible first | exact HB.out | apply below_alloc | apply pw_below_drewN | apply below_drew1 | refine below_set ?_ GE196.out | refine below_set ?_ GE197.out) | exact HB.out))) : w.heap.size ≤ gb206)); have n8_ := Aside0.mk ((by rw [hg]; exact Nat.ne_of_lt (blk_lt (g := gb196) (o := .cells #[.int .i64 a0_0, .slice A0_1 l0_1.length c0_1] 24 (0, 0)) (bk_ BK196)) : gb196 ≠ gb206)); have n9_ := Aside0.mk ((by rw [hg]; exact Nat.ne_of_gt (blk_lt (g := gb196) (o := .cells #[.int .i64 a0_0, .slice A0_1 l0_1.length c0_1] 24 (0, 0)) (bk_ BK196)) : gb206 ≠ gb196)); have n10_ := Aside0.mk ((by rw [hg]; exact Nat.ne_of_lt (blk_lt (g := gb197) (o := .cells #[.int .i64 0, .slice none 0 0] 24 (0, 0)) (bk_ BK197)) : gb197 ≠ gb206)); have n11_ := Aside0.mk ((by rw [hg]; exact Nat.ne_of_gt (blk_lt (g := gb197) (o := .cells #[.int .i64 0, .slice none 0 0] 24 (0, 0)) (bk_ BK197)) : gb206 ≠ gb197)); clear HO201; clear HO205; clear BK196; clear BK197; clear HB; have HO201 := n0_; have HO205 := n1_; have BK196 := n2_; have BK197 := n3_; have HB := n4_; have BK206 := n5_; have GW206 := n6_; have GE206 := n7_; have NB196_206 := n8_; have NB206_196 := n9_; have NB197_206 := n10_; have NB206_197 := n11_; clear n0_ n1_ n2_ n3_ n4_ n5_ n6_ n7_ n8_ n9_ n10_ n11_; clear hb hbox hg; have hnb42 := NB206_196.out; have hnc42 := NB196_206.out; have hnb43 := NB206_197.out; have hnc43 := NB197_206.out; have hcz44_0 : w41.cell? ⟨gb206, 0, none⟩ = some (.int .i64 0) := (blk_cell BK206.out 0).trans rfl; have hcz44_1 : w41.cell? ⟨gb206, 1, none⟩ = some (.slice none 0 0) := (blk_cell BK206.out 1).trans rfl; have hfz44_0 := blk_frozen BK206.out 0; have hfz44_1 := blk_frozen BK206.out 1; obtain ⟨Ao45, co45, eo45⟩ := Kd.R_slice HO205.out; subst eo45))
             have n0_ : Aside0 (Kd.R (Kd.int .i64) 3 ((w41.setCell ⟨gb206, 0, none⟩ (.int .i64 t202)).setCell ⟨gb206, 1, none⟩ (.slice Ao45 t203.length co45)) w.heap.size (fun k_ => some k_ ≠ (.slice Ao45 t203.length co45 : Value).ownBlock) (.slice Ao38 t199.length co38) t199) := ⟨by (with_reducible repeat (first | apply Kd.R_alloc | apply Kd.R_drewN | apply Kd.R_drew)); exact Kd.R_mono (Kd.R_far (p := ⟨gb206, 1, none⟩) (Kd.R_far (p := ⟨gb206, 0, none⟩) (Kd.R_types HO201.out BK206.out (by decide)) (fun _ hk => by first | exact hk.2 | grind) (.int .i64 t202)) (fun _ hk => by first | exact hk.2 | grind) (.slice Ao45 t203.length co45)) (fun _ hk => by first | exact hk.1.2 | grind)⟩
             have n1_ : Aside0 (Kd.R (Kd.int .i64) 3 ((w41.setCell ⟨gb206, 0, none⟩ (.int .i64 t202)).setCell ⟨gb206, 1, none⟩ (.slice Ao45 t203.length co45)) w.heap.size (fun k_ => some k_ ≠ (.slice Ao38 t199.length co38 : Value).ownBlock) (.slice Ao45 t203.length co45) t203) := ⟨by (with_reducible repeat (first | apply Kd.R_alloc | apply Kd.R_drewN | apply Kd.R_drew)); exact Kd.R_mono (Kd.R_far (p := ⟨gb206, 1, none⟩) (Kd.R_far (p := ⟨gb206, 0, none⟩) (Kd.R_types HO205.out BK206.out (by decide)) (fun _ hk => by first | exact hk.2 | grind) (.int .i64 t202)) (fun _ hk => by first | exact hk.2 | grind) (.slice Ao45 t203.length co45)) (fun _ hk => by first | exact hk.1.2 | grind)⟩
             have n2_ : Aside0 (((w41.setCell ⟨gb206, 0, none⟩ (.int .i64 t202)).setCell ⟨gb206, 1, none⟩ (.slice Ao45 t203.length co45)).heap[gb196]? = some (.cells #[.int .i64 a0_0, .slice A0_1 l0_1.length c0_1] 24 (0, 0))) := ⟨by (with_reducible repeat (first | refine blk_drewN ?_ _ | refine blk_drew ?_ | refine blk_alloc ?_ _)); refine blk_far ?_ NB196_206.out _; (with_reducible repeat (first | refine blk_drewN ?_ _ | refine blk_drew ?_ | refine blk_alloc ?_ _)); refine blk_far ?_ NB196_206.out _; exact bk_ BK196⟩
             have n3_ : Aside0 (((w41.setCell ⟨gb206, 0, none⟩ (.int .i64 t202)).setCell ⟨gb206, 1, none⟩ (.slice Ao45 t203.length co45)).heap[gb197]? = some (.cells #[.int .i64 0, .slice none 0 0] 24 (0, 0))) := ⟨by (with_reducible repeat (first | refine blk_drewN ?_ _ | refine blk_drew ?_ | refine blk_alloc ?_ _)); refine blk_far ?_ NB197_206.out _; (with_reducible repeat (first | refine blk_drewN ?_ _ | refine blk_drew ?_ | refine blk_alloc ?_ _)); refine blk_far ?_ NB197_206.out _; exact bk_ BK197⟩
             have n4_ : Aside0 (((w41.setCell ⟨gb206, 0, none⟩ (.int .i64 t202)).setCell ⟨gb206, 1, none⟩ (.slice Ao45 t203.length co45)).heap[gb206]? = some (.cells #[.int .i64 t202, .slice Ao45 t203.length co45] 24 (0, 0))) := ⟨by (with_reducible repeat (first | refine blk_drewN ?_ _ | refine blk_drew ?_ | refine blk_alloc ?_ _)); refine blk_put (cs := #[.int .i64 t202, .slice none 0 0]) ?_ 1 _ rfl; (with_reducible repeat (first | refine blk_drewN ?_ _ | refine blk_drew ?_ | refine blk_alloc ?_ _)); refine blk_put (cs := #[.int .i64 0, .slice none 0 0]) ?_ 0 _ rfl; exact bk_ BK206⟩
             have n5_ : Aside0 (Below w.heap.size w ((w41.setCell ⟨gb206, 0, none⟩ (.int .i64 t202)).setCell ⟨gb206, 1, none⟩ (.slice Ao45 t203.length co45))) := ⟨by repeat (first | (with_reducible first | exact HB.out | apply below_alloc | apply pw_below_drewN | apply below_drew1 | refine below_set ?_ GE196.out | refine below_set ?_ GE197.out | refine below_set ?_ GE206.out) | exact HB.out)⟩
             (try clear HO201)
             (try clear HO205)
             (try clear BK196)
             (try clear BK197)
             (try clear BK206)
             (try clear HB)
             generalize ((w41.setCell ⟨gb206, 0, none⟩ (.int .i64 t202)).setCell ⟨gb206, 1, none⟩ (.slice Ao45 t203.length co45)) = w46 at n0_ n1_ n2_ n3_ n4_ n5_ ⊢
             have HO201 := n0_
             have HO205 := n1_
             have BK196 := n2_
             have BK197 := n3_
             have BK206 := n4_
             have HB := n5_
             clear n0_ n1_ n2_ n3_ n4_ n5_
             have n0_ := Aside0.mk (Kd.R_drew HO201.out)
             have n1_ := Aside0.mk (Kd.R_drew HO205.out)
             have n2_ := Aside0.mk (blk_drew BK196.out)
             have n3_ := Aside0.mk (blk_drew BK197.out)
             have n4_ := Aside0.mk (blk_drew BK206.out)
             have n5_ := Aside0.mk (below_drew1 HB.out)
             clear HO201
             clear HO205
             clear BK196
             clear BK197
             clear BK206
             clear HB
             have HO201 := n0_
             have HO205 := n1_
             have BK196 := n2_
             have BK197 := n3_
             have BK206 := n4_
             have HB := n5_
             clear n0_ n1_ n2_ n3_ n4_ n5_
             have p207 : 0 ≤ ((ji25) : Int) := of_decide_eq_true (by first | (with_reducible assumption) | assumption)
             have q207 : (ji25) < (t199.length : Int) := of_decide_eq_true (by first | (with_reducible assumption) | assumption)
             obtain ⟨ad207, e207, hx207_0⟩ := Kd.at_int (Kd.R_reads' HO201.out).2.2 (ji25) p207 q207
             cases e207
             replace p207 := eq_true p207
             replace q207 := eq_true q207
             have p30 : 0 ≤ ((rd t199 (ji25)) : Int) := of_decide_eq_true (by first | (with_reducible assumption) | assumption)
             have q30 : ((rd t199 (ji25)) : Int) < ((t203.length : Int) : Int) := of_decide_eq_true (by first | (with_reducible assumption) | assumption)
             obtain ⟨go30, co30, eo30, gb30, gl30, cl30, HG30⟩ := Kd.R_form HO205.out (by omega)
             (first | cases eo30 | (injection eo30 with ea_ en_ ec_; (first | subst ea_ | (injection ea_ with ea_; subst ea_)); subst ec_; clear en_))
             have GB30 := Aside0.mk gb30
             have GG30 := Aside0.mk HG30
             clear gb30 gl30 HG30
             obtain ⟨hx30_0, hf30_0⟩ := Kd.R_celln 0 HO205.out ((rd t199 (ji25)) : Int) p30 q30
             replace p30 := eq_true p30
             replace q30 := eq_true q30
             have HP48 := Kd.R_putn HO205.out ((rd t199 (ji25)) : Int) (-1)
             rw [← Ny208.out] at HP48
             have HQ48 := Aside0.mk HP48
             clear HP48
             refine start_ (n := 9) (S := fun w' => w'.cell? ⟨gb206, 0, none⟩ = some (.int .i64 t202) ∧ w'.cell? ⟨gb206, 1, none⟩ = some (.slice (some ⟨go30, 0, none⟩) t203.length co45) ∧ w'.cell? (ad207.add ((ji25)).toNat) = some (.int .i64 (rd t199 (ji25)))) (ds := [8]) (bs 9 0) (by kernel_rfl) rfl rfl ⟨(blk_cell BK206.out 0).trans rfl, (blk_cell BK206.out 1).trans rfl, hx207_0⟩ (fun hHeld => ?_); refine with_tabW spec_SlabTake.tab7 spec_SlabTake.bits7 (fun HT_ HW_ => ?_)
             generalize w46.drew = w47 at HO201 HO205 BK196 BK197 BK206 HB GG30 HQ48 hf30_0 hx207_0 hx30_0 hHeld ⊢
             refine pure_s (i := 0) (N := some 28) (bs 9 1) (any_of HT_.out (by kernel_rfl)) (h := ?_)
             refine pure_s (i := 2) (N := some 30) #[oT,oF,oT,oF,oF,oF,oF,oF,oF] (any_of HT_.out (by kernel_rfl)) (h := ?_)
             refine pure_s (i := 3) (N := some 31) #[oT,oF,oT,oT,oF,oF,oF,oF,oF] (any_of HT_.out (by kernel_rfl)) (h := ?_)
             refine pure_s (i := 4) (N := some 32) #[oT,oF,oT,oT,oT,oF,oF,oF,oF] (any_of HT_.out (by kernel_rfl)) (h := ?_)
             refine pure_s (i := 5) (N := some 33) #[oT,oF,oT,oT,oT,oT,oF,oF,oF] (any_of HT_.out (by kernel_rfl)) (h := ?_)
             refine take_ (i := 1) (N := some 29) (v := ?_) (a' := ?_) (bs 9 6) rfl rfl (take_ofW HT_.out HW_.out (by kernel_rfl)) (fun _ _ _ h => h) (Or.inl ⟨by rfl, ?_⟩) hHeld ?_ ?_
             rotate_left
             ·rintro w' ⟨s0, s1, s2⟩
              go_simp
              with_reducible rfl
             rotate_left
             ·simp only [Act.put, List.setIfInBounds_toArray, List.set_cons_zero, List.set_cons_succ, i64_w, i32_w]
              rfl
             refine take_ (i := 6) (N := some 34) (v := ?_) (a' := ?_) (bs 9 7) rfl rfl (take_ofW HT_.out HW_.out (by kernel_rfl)) (fun _ _ _ h => h) (Or.inl ⟨by rfl, ?_⟩) hHeld ?_ ?_
             rotate_left
             ·rintro w' ⟨s0, s1, s2⟩
              go_simp
              with_reducible rfl
             rotate_left
             ·simp only [Act.put, List.setIfInBounds_toArray, List.set_cons_zero, List.set_cons_succ, i64_w, i32_w]
              rfl
             refine pure_s (i := 7) (N := some 35) (bs 9 8) (any_of HT_.out (by kernel_rfl)) (h := ?_)
             refine last_ (i := 8) (N := none) (bs 9 9) rfl rfl (one_of HT_.out (by kernel_rfl)) (by decide) (fun K hK => ?_)
             refine skip_ (w1 := ?_) (by rfl) rfl ?_ ?_
             rotate_left
             ·go_simp
              rfl
             refine hK.out _ _ ?_
             clear hK K
             refine done_ (done_of HT_.out (by kernel_rfl)) ?_
             have n0_ : Aside0 (Kd.R (Kd.int .i64) 3 (w47.setCell ⟨go30, ((rd t199 (ji25)) : Int).toNat, none⟩ (.int .i64 (-1))) w.heap.size (fun k_ => some k_ ≠ (.slice (some ⟨go30, 0, none⟩) t203.length co45 : Value).ownBlock) (.slice (some ad207) t199.length co38) t199) := ⟨by (with_reducible repeat (first | apply Kd.R_alloc | apply Kd.R_drewN | apply Kd.R_drew)); exact Kd.R_mono (Kd.R_far (p := ⟨go30, ((rd t199 (ji25)) : Int).toNat, none⟩) (Kd.R_mono HO201.out (fun k_ hk => by first | exact (⟨hk, fun e_ => hk (by rw [e_]; rfl)⟩ : _ ∧ k_ ≠ go30) | grind)) (fun _ hk => by first | exact hk.2 | grind) (.int .i64 (-1))) (fun _ hk => by first | exact hk.1 | grind)⟩
             have n1_ : Aside0 (Kd.R (Kd.int .i64) 3 (w47.setCell ⟨go30, ((rd t199 (ji25)) : Int).toNat, none⟩ (.int .i64 (-1))) w.heap.size (fun k_ => some k_ ≠ (.slice (some ad207) t199.length co38 : Value).ownBlock) (.slice (some ⟨go30, 0, none⟩) t203.length co45) y208) := ⟨kr_ HQ48⟩
             have n2_ : Aside0 ((w47.setCell ⟨go30, ((rd t199 (ji25)) : Int).toNat, none⟩ (.int .i64 (-1))).heap[gb196]? = some (.cells #[.int .i64 a0_0, .slice A0_1 l0_1.length c0_1] 24 (0, 0))) := ⟨by (with_reducible repeat (first | refine blk_drewN ?_ _ | refine blk_drew ?_ | refine blk_alloc ?_ _)); refine blk_far ?_ (by have h_ := Kd.R_ne HO205.out BK196.out (by decide); intro e_; exact h_ (by rw [e_]; rfl)) _; exact bk_ BK196⟩
             have n3_ : Aside0 ((w47.setCell ⟨go30, ((rd t199 (ji25)) : Int).toNat, none⟩ (.int .i64 (-1))).heap[gb197]? = some (.cells #[.int .i64 0, .slice none 0 0] 24 (0, 0))) := ⟨by (with_reducible repeat (first | refine blk_drewN ?_ _ | refine blk_drew ?_ | refine blk_alloc ?_ _)); refine blk_far ?_ (by have h_ := Kd.R_ne HO205.out BK197.out (by decide); intro e_; exact h_ (by rw [e_]; rfl)) _; exact bk_ BK197⟩
             have n4_ : Aside0 ((w47.setCell ⟨go30, ((rd t199 (ji25)) : Int).toNat, none⟩ (.int .i64 (-1))).heap[gb206]? = some (.cells #[.int .i64 t202, .slice (some ⟨go30, 0, none⟩) t203.length co45] 24 (0, 0))) := ⟨by (with_reducible repeat (first | refine blk_drewN ?_ _ | refine blk_drew ?_ | refine blk_alloc ?_ _)); refine blk_far ?_ (by have h_ := Kd.R_ne HO205.out BK206.out (by decide); intro e_; exact h_ (by rw [e_]; rfl)) _; exact bk_ BK206⟩
             have n5_ : Aside0 (Below w.heap.size w (w47.setCell ⟨go30, ((rd t199 (ji25)) : Int).toNat, none⟩ (.int .i64 (-1)))) := ⟨by repeat (first | (with_reducible first | exact HB.out | apply below_alloc | apply pw_below_drewN | apply below_drew1 | refine below_set ?_ GB30.out | refine below_set ?_ GE196.out | refine below_set ?_ GE197.out | refine below_set ?_ GE206.out) | exact HB.out)⟩
             (try clear HO201)
             (try clear HO205)
             (try clear BK196)
             (try clear BK197)
             (try clear BK206)
             (try clear HB)
             generalize (w47.setCell ⟨go30, ((rd t199 (ji25)) : Int).toNat, none⟩ (.int .i64 (-1))) = w49 at n0_ n1_ n2_ n3_ n4_ n5_ ⊢
             have HO201 := n0_
             have HO205 := n1_
             have BK196 := n2_
             have BK197 := n3_
             have BK206 := n4_
             have HB := n5_
             clear n0_ n1_ n2_ n3_ n4_ n5_
             have hcz50_0 : w49.cell? ⟨gb206, 0, none⟩ = some (.int .i64 t202) := (blk_cell BK206.out 0).trans rfl
             have hcz50_1 : w49.cell? ⟨gb206, 1, none⟩ = some (.slice (some ⟨go30, 0, none⟩) t203.length co45) := (blk_cell BK206.out 1).trans rfl
             have hfz50_0 := blk_frozen BK206.out 0
             have hfz50_1 := blk_frozen BK206.out 1
             have p209 : 0 ≤ (a1 : Int) := of_decide_eq_true (by first | (with_reducible assumption) | assumption)
             have q209 : a1 < (t199.length : Int) := of_decide_eq_true (by first | (with_reducible assumption) | assumption)
             obtain ⟨ad209, e209, hx209_0⟩ := Kd.at_int (Kd.R_reads' HO201.out).2.2 a1 p209 q209
             obtain rfl : ad207 = ad209 := (by injection e209)
             have hn209_0 : ad207.block ≠ gb206 := Kd.own_blk (Kd.R_ne HO201.out BK206.out (by decide))
             replace hx209_0 := (cell_far (p := ⟨gb206, 0, none⟩) (by first | (rw [add_block]; exact hn209_0) | (show (Addr.add _ _).block ≠ _; rw [add_block]; exact hn209_0) | exact hn209_0) (.int .i64 (-1))).trans hx209_0
             clear hn209_0
             replace p209 := eq_true p209
             replace q209 := eq_true q209
             try go_wp2
             have n0_ : Aside0 (Kd.R (Kd.int .i64) 3 ((w49.setCell ⟨gb206, 0, none⟩ (.int .i64 (-1))).setCell ⟨gb206, 0, none⟩ (.int .i64 (rd t199 a1))) w.heap.size (fun k_ => some k_ ≠ (.slice (some ⟨go30, 0, none⟩) t203.length co45 : Value).ownBlock) (.slice (some ad207) t199.length co38) t199) := ⟨by (with_reducible repeat (first | apply Kd.R_alloc | apply Kd.R_drewN | apply Kd.R_drew)); exact Kd.R_mono (Kd.R_far (p := ⟨gb206, 0, none⟩) (Kd.R_far (p := ⟨gb206, 0, none⟩) (Kd.R_types HO201.out BK206.out (by decide)) (fun _ hk => by first | exact hk.2 | grind) (.int .i64 (-1))) (fun _ hk => by first | exact hk.2 | grind) (.int .i64 (rd t199 a1))) (fun _ hk => by first | exact hk.1 | grind)⟩
             have n1_ : Aside0 (Kd.R (Kd.int .i64) 3 ((w49.setCell ⟨gb206, 0, none⟩ (.int .i64 (-1))).setCell ⟨gb206, 0, none⟩ (.int .i64 (rd t199 a1))) w.heap.size (fun k_ => some k_ ≠ (.slice (some ad207) t199.length co38 : Value).ownBlock) (.slice (some ⟨go30, 0, none⟩) t203.length co45) y208) := ⟨by (with_reducible repeat (first | apply Kd.R_alloc | apply Kd.R_drewN | apply Kd.R_drew)); exact Kd.R_mono (Kd.R_far (p := ⟨gb206, 0, none⟩) (Kd.R_far (p := ⟨gb206, 0, none⟩) (Kd.R_types HO205.out BK206.out (by decide)) (fun _ hk => by first | exact hk.2 | grind) (.int .i64 (-1))) (fun _ hk => by first | exact hk.2 | grind) (.int .i64 (rd t199 a1))) (fun _ hk => by first | exact hk.1 | grind)⟩
             have n2_ : Aside0 (((w49.setCell ⟨gb206, 0, none⟩ (.int .i64 (-1))).setCell ⟨gb206, 0, none⟩ (.int .i64 (rd t199 a1))).heap[gb196]? = some (.cells #[.int .i64 a0_0, .slice A0_1 l0_1.length c0_1] 24 (0, 0))) := ⟨by (with_reducible repeat (first | refine blk_drewN ?_ _ | refine blk_drew ?_ | refine blk_alloc ?_ _)); refine blk_far ?_ NB196_206.out _; (with_reducible repeat (first | refine blk_drewN ?_ _ | refine blk_drew ?_ | refine blk_alloc ?_ _)); refine blk_far ?_ NB196_206.out _; exact bk_ BK196⟩
             have n3_ : Aside0 (((w49.setCell ⟨gb206, 0, none⟩ (.int .i64 (-1))).setCell ⟨gb206, 0, none⟩ (.int .i64 (rd t199 a1))).heap[gb197]? = some (.cells #[.int .i64 0, .slice none 0 0] 24 (0, 0))) := ⟨by (with_reducible repeat (first | refine blk_drewN ?_ _ | refine blk_drew ?_ | refine blk_alloc ?_ _)); refine blk_far ?_ NB197_206.out _; (with_reducible repeat (first | refine blk_drewN ?_ _ | refine blk_drew ?_ | refine blk_alloc ?_ _)); refine blk_far ?_ NB197_206.out _; exact bk_ BK197⟩
             have n4_ : Aside0 (((w49.setCell ⟨gb206, 0, none⟩ (.int .i64 (-1))).setCell ⟨gb206, 0, none⟩ (.int .i64 (rd t199 a1))).heap[gb206]? = some (.cells #[.int .i64 (rd t199 a1), .slice (some ⟨go30, 0, none⟩) t203.length co45] 24 (0, 0))) := ⟨by (with_reducible repeat (first | refine blk_drewN ?_ _ | refine blk_drew ?_ | refine blk_alloc ?_ _)); refine blk_put (cs := #[.int .i64 (-1), .slice (some ⟨go30, 0, none⟩) t203.length co45]) ?_ 0 _ rfl; (with_reducible repeat (first | refine blk_drewN ?_ _ | refine blk_drew ?_ | refine blk_alloc ?_ _)); refine blk_put (cs := #[.int .i64 t202, .slice (some ⟨go30, 0, none⟩) t203.length co45]) ?_ 0 _ rfl; exact bk_ BK206⟩
             have n5_ : Aside0 (Below w.heap.size w ((w49.setCell ⟨gb206, 0, none⟩ (.int .i64 (-1))).setCell ⟨gb206, 0, none⟩ (.int .i64 (rd t199 a1)))) := ⟨by repeat (first | (with_reducible first | exact HB.out | apply below_alloc | apply pw_below_drewN | apply below_drew1 | refine below_set ?_ GE196.out | refine below_set ?_ GE197.out | refine below_set ?_ GE206.out) | exact HB.out)⟩
             (try clear HO201)
             (try clear HO205)
             (try clear BK196)
             (try clear BK197)
             (try clear BK206)
             (try clear HB)
             generalize ((w49.setCell ⟨gb206, 0, none⟩ (.int .i64 (-1))).setCell ⟨gb206, 0, none⟩ (.int .i64 (rd t199 a1))) = w51 at n0_ n1_ n2_ n3_ n4_ n5_ ⊢
             have HO201 := n0_
             have HO205 := n1_
             have BK196 := n2_
             have BK197 := n3_
             have BK206 := n4_
             have HB := n5_
             clear n0_ n1_ n2_ n3_ n4_ n5_
             have n0_ := Aside0.mk (Kd.R_drew HO201.out)
             have n1_ := Aside0.mk (Kd.R_drew HO205.out)
             have n2_ := Aside0.mk (blk_drew BK196.out)
             have n3_ := Aside0.mk (blk_drew BK197.out)
             have n4_ := Aside0.mk (blk_drew BK206.out)
             have n5_ := Aside0.mk (below_drew1 HB.out)
             clear HO201
             clear HO205
             clear BK196
             clear BK197
             clear BK206
             clear HB
             have HO201 := n0_
             have HO205 := n1_
             have BK196 := n2_
             have BK197 := n3_
             have BK206 := n4_
             have HB := n5_
             clear n0_ n1_ n2_ n3_ n4_ n5_
             have p210 : 0 ≤ (0 : Int) := (by omega)
             have q210 : 0 < (t199.length : Int) := of_decide_eq_true (by first | (with_reducible assumption) | assumption)
             obtain ⟨ad210, e210, hx210_0⟩ := Kd.at_int (Kd.R_reads' HO201.out).2.2 0 p210 q210
             obtain rfl : ad207 = ad210 := (by injection e210)
             have qi210 : (0 < t199.length) = True := eq_true (by omega)
             (try rw [show ((0 : Int)).toNat = 0 from rfl] at hx210_0)
             (try rw [Addr.add_zero'] at hx210_0)
             replace p210 := eq_true p210
             replace q210 := eq_true q210
             refine start_ (n := 7) (S := fun w' => w'.cell? ⟨gb206, 0, none⟩ = some (.int .i64 (rd t199 a1)) ∧ w'.cell? ⟨gb206, 1, none⟩ = some (.slice (some ⟨go30, 0, none⟩) t203.length co45) ∧ w'.cell? ad207 = some (.int .i64 (rd t199 0))) (ds := []) (bs 7 0) (by kernel_rfl) rfl rfl ⟨(blk_cell BK206.out 0).trans rfl, (blk_cell BK206.out 1).trans rfl, hx210_0⟩ (fun hHeld => ?_)
             generalize w51.drew = w52 at HO201 HO205 BK196 BK197 BK206 HB hx210_0 hHeld ⊢
             refine pure_s (i := 1) (N := some 47) #[oF,oT,oF,oF,oF,oF,oF] (by kernel_rfl) (h := ?_)
             refine pure_s (i := 2) (N := some 48) #[oF,oT,oT,oF,oF,oF,oF] (by kernel_rfl) (h := ?_)
             refine take_ (i := 0) (N := some 46) (v := ?_) (a' := ?_) (bs 7 3) rfl rfl (by kernel_rfl) (fun _ _ _ h => h) (Or.inl ⟨by rfl, ?_⟩) hHeld ?_ ?_
             rotate_left
             ·rintro w' ⟨s0, s1, s2⟩
              go_simp
              with_reducible rfl
             rotate_left
             ·simp only [Act.put, List.setIfInBounds_toArray, List.set_cons_zero, List.set_cons_succ, i64_w, i32_w]
              rfl
             refine take_ (i := 3) (N := some 49) (v := ?_) (a' := ?_) (bs 7 4) rfl rfl (by kernel_rfl) (fun _ _ _ h => h) (Or.inl ⟨by rfl, ?_⟩) hHeld ?_ ?_
             rotate_left
             ·rintro w' ⟨s0, s1, s2⟩
              go_simp
              with_reducible rfl
             rotate_left
             ·simp only [Act.put, List.setIfInBounds_toArray, List.set_cons_zero, List.set_cons_succ, i64_w, i32_w]
              rfl
             refine one_ (i := 4) (N := none) (bs 7 5) rfl rfl (by kernel_rfl) (by decide) (fun K hK => ?_)
             have hs53 : w52.cell? ⟨gb197, 0, none⟩ = some (.int .i64 0) := (blk_cell BK197.out 0).trans rfl
             have hfs53 := blk_frozen BK197.out 0
             have hns53_0 := NB196_197.out
             have hns53_2 := NB206_197.out
             have hms53_0 := NB197_196.out
             have hms53_2 := NB197_206.out
             have hs54 : w52.cell? ⟨gb197, 1, none⟩ = some (.slice none 0 0) := (blk_cell BK197.out 1).trans rfl
             have hfs54 := blk_frozen BK197.out 1
             have hns54_0 := NB196_197.out
             have hns54_2 := NB206_197.out
             have hms54_0 := NB197_196.out
             have hms54_2 := NB197_206.out
             refine skip_ (w1 := ?_) (by rfl) rfl ?_ ?_
             rotate_left
             ·go_simp
              rfl
             refine hK.out _ _ ⟨((cell_far (p := ⟨gb197, _, none⟩) NB206_197.out _).trans (((cell_far (p := ⟨gb197, _, none⟩) NB206_197.out _).trans (hHeld.1)))), ((cell_far (p := ⟨gb197, _, none⟩) NB206_197.out _).trans (((cell_far (p := ⟨gb197, _, none⟩) NB206_197.out _).trans (hHeld.2.1)))), ((cell_far (p := ⟨gb197, _, none⟩) (by first | exact Kd.own_blk (Kd.R_ne HO201.out BK197.out (by decide)) | (rw [add_block]; exact Kd.own_blk (Kd.R_ne HO201.out BK197.out (by decide))) | (show (Addr.add _ _).block ≠ _; rw [add_block]; exact Kd.own_blk (Kd.R_ne HO201.out BK197.out (by decide))) | (dsimp only; exact Kd.own_blk (Kd.R_ne HO201.out BK197.out (by decide)))) _).trans (((cell_far (p := ⟨gb197, _, none⟩) (by first | exact Kd.own_blk (Kd.R_ne HO201.out BK197.out (by decide)) | (rw [add_block]; exact Kd.own_blk (Kd.R_ne HO201.out BK197.out (by decide))) | (show (Addr.add _ _).block ≠ _; rw [add_block]; exact Kd.own_blk (Kd.R_ne HO201.out BK197.out (by decide))) | (dsimp only; exact Kd.own_blk (Kd.R_ne HO201.out BK197.out (by decide)))) _).trans (hHeld.2.2))))⟩ (fun hHeld => ?_)
             clear hK K
             refine pure_s (i := 5) (N := some 5) (bs 7 6) (by kernel_rfl) (h := ?_)
             refine pure_s (i := 6) (N := some 6) (bs 7 7) (by kernel_rfl) (h := ?_)
             refine done_ (by kernel_rfl) ?_
             try go_wp2
             refine bodyPost_ret (results_ctt rfl _ _ gb197 24 #[.int .i64 (rd t199 a1), .slice (some ⟨go30, 0, none⟩) t203.length co45] (0, 0) _ rfl (by (with_reducible repeat (first | refine blk_drewN ?_ _ | refine blk_drew ?_ | refine blk_alloc ?_ _)); refine blk_put (cs := #[.int .i64 (rd t199 a1), .slice none 0 0]) ?_ 1 _ rfl; (with_reducible repeat (first | refine blk_drewN ?_ _ | refine blk_drew ?_ | refine blk_alloc ?_ _)); refine blk_put (cs := #[.int .i64 0, .slice none 0 0]) ?_ 0 _ rfl; exact bk_ BK197) Try.underlying24 rfl (by kernel_rfl)) rfl ?_
             exact ⟨_, by first | rfl | (simp [errW_none, errW_some] <;> rfl) | (simp only [← hji25]; first | rfl | (simp [errW_none, errW_some] <;> rfl)) | (simp [*, errW_none, errW_some] <;> rfl), by (with_reducible repeat (first | apply Kd.R_alloc | apply Kd.R_drewN | apply Kd.R_drew)); exact Kd.R_mono (Kd.R_far (p := ⟨gb197, 1, none⟩) (Kd.R_far (p := ⟨gb197, 0, none⟩) (Kd.R_types HO205.out BK197.out (by decide)) (fun _ hk => by first | exact hk.2 | grind) (.int .i64 (rd t199 a1))) (fun _ hk => by first | exact hk.2 | grind) (.slice (some ⟨go30, 0, none⟩) t203.length co45)) (fun _ hk => by first | exact trivial | grind), by repeat (first | (with_reducible first | exact HB.out | apply below_alloc | apply pw_below_drewN | apply below_drew1 | refine below_set ?_ GE196.out | refine below_set ?_ GE197.out | refine below_set ?_ GE206.out) | exact HB.out)⟩
            ·rw [if_neg c34] at H
             exact absurd H (by simp)
           ·rw [if_neg c33] at H
            exact absurd H (by simp)
          ·rw [if_neg c32] at H
           exact absurd H (by simp)
         ·rw [if_neg c31] at H
          have c31b0 : decide (a1 < (t199.length : Int)) = false := decide_eq_false c31
          clear c31
          by_cases c55 : 0 < (t199.length : Int)
          ·rw [if_pos c55] at H
           have c55b0 : decide (0 < (t199.length : Int)) = true := decide_eq_true c55
           have c55b1 : decide (0 < t199.length) = true := decide_eq_true (by omega)
           clear c55
           simp only [Option.some.injEq, Prod.mk.injEq] at H
           obtain ⟨rfl, rfl, rfl, rfl⟩ := H
           have hnb56 := NB196_197.out
           have hnc56 := NB197_196.out
           have hcz57_0 : wc.cell? ⟨gb196, 0, none⟩ = some (.int .i64 a0_0) := (blk_cell BK196.out 0).trans rfl
           have hcz57_1 : wc.cell? ⟨gb196, 1, none⟩ = some (.slice A0_1 l0_1.length c0_1) := (blk_cell BK196.out 1).trans rfl
           have hfz57_0 := blk_frozen BK196.out 0
           have hfz57_1 := blk_frozen BK196.out 1
           try go_wp2_with (first | ((with_reducible refine gate_callee (f := 70) rfl ?_); refine goesL_ (some 20) rfl rfl Try.func70 (by kernel_rfl) rfl #[.agg #[.int .i64 a0_0, .slice A0_1 l0_1.length c0_1], .int .i64 a0_0] rfl mt_ ?_; (with_reducible refine (spec_l16Walk.calls kj2 a0_0 _ _ l0_1 a0_0 t199 _ ?side1 ?side2 A17.out).mono ?_); (case side1 => repeat (first | exact (Kd.C_below HR0_1.out HB.out) | (with_reducible refine Kd.C_alloc ?_ _) | (with_reducible refine Kd.C_drewN ?_ _) | (with_reducible refine Kd.C_drew ?_))); (case side2 => exact HC0_1.out); rintro e w58 ⟨v200, rfl, ho0, hb⟩; refine ⟨_, rfl, ?_⟩; have n0_ := Aside0.mk (Kd.R_lower ho0 (below_size (by repeat (first | (with_reducible first | exact HB.out | apply below_alloc | apply pw_below_drewN | apply below_drew1 | refine below_set ?_ GE196.out | refine below_set ?_ GE197.out) | exact HB.out)))); have n1_ := Aside0.mk (blk_below (g := gb196) (o := .cells #[.int .i64 a0_0, .slice A0_1 l0_1.length c0_1] 24 (0, 0)) (bk_ BK196) hb); have n2_ := Aside0.mk (blk_below (g := gb197) (o := .cells #[.int .i64 0, .slice none 0 0] 24 (0, 0)) (bk_ BK197) hb); have n3_ := Aside0.mk (below_step (by repeat (first | (with_reducible first | exact HB.out | apply below_alloc | apply pw_below_drewN | apply below_drew1 | refine below_set ?_ GE196.out | refine below_set ?_ GE197.out) | exact HB.out)) hb); clear BK196; clear BK197; clear HB; have HO201 := n0_; have BK196 := n1_; have BK197 := n2_; have HB := n3_; clear n0_ n1_ n2_ n3_; (try clear hb); (try clear hb2); (try clear hk); (try clear hi); (try clear ho0); obtain ⟨Ao59, co59, eo59⟩ := Kd.R_slice HO201.out; subst eo59; have hcz60_0 : w58.cell? ⟨gb196, 0, none⟩ = some (.int .i64 a0_0) := (blk_cell BK196.out 0).trans rfl; have hcz60_1 : w58.cell? ⟨gb196, 1, none⟩ = some (.slice A0_1 l0_1.length c0_1) := (blk_cell BK196.out 1).trans rfl; have hfz60_0 := blk_frozen BK196.out 0; have hfz60_1 := blk_frozen BK196.out 1) | ((with_reducible refine gate_callee (f := 72) rfl ?_); refine goesL_ (some 27) rfl rfl Try.func72 (by kernel_rfl) rfl #[.agg #[.int .i64 a0_0, .slice A0_1 l0_1.length c0_1]] rfl mt_ ?_; (with_reducible refine (spec_l16Copy.calls a0_0 _ _ l0_1 t202 t203 _ ?side1 ?side2 A24.out).mono ?_); (case side1 => repeat (first | exact (Kd.C_below HR0_1.out HB.out) | (with_reducible refine Kd.C_alloc ?_ _) | (with_reducible refine Kd.C_drewN ?_ _) | (with_reducible refine Kd.C_drew ?_))); (case side2 => exact HC0_1.out); rintro e w61 ⟨v204, rfl, ho0, hb⟩; refine ⟨_, rfl, ?_⟩; have n0_ := Aside0.mk (Kd.R_elder' (kr_ HO201) (Kd.R_base ho0) hb); have n1_ := Aside0.mk (Kd.R_lower (Kd.R_new' ho0 (Kd.R_lt (kr_ HO201))) (below_size (by repeat (first | (with_reducible first | exact HB.out | apply below_alloc | apply pw_below_drewN | apply below_drew1 | refine below_set ?_ GE196.out | refine below_set ?_ GE197.out) | exact HB.out)))); have n2_ := Aside0.mk (blk_below (g := gb196) (o := .cells #[.int .i64 a0_0, .slice A0_1 l0_1.length c0_1] 24 (0, 0)) (bk_ BK196) hb); have n3_ := Aside0.mk (blk_below (g := gb197) (o := .cells #[.int .i64 0, .slice none 0 0] 24 (0, 0)) (bk_ BK197) hb); have n4_ := Aside0.mk (below_step (by repeat (first | (with_reducible first | exact HB.out | apply below_alloc | apply pw_below_drewN | apply below_drew1 | refine below_set ?_ GE196.out | refine below_set ?_ GE197.out) | exact HB.out)) hb); clear HO201; clear BK196; clear BK197; clear HB; have HO201 := n0_; have HO205 := n1_; have BK196 := n2_; have BK197 := n3_; have HB := n4_; clear n0_ n1_ n2_ n3_ n4_; (try clear hb); (try clear hb2); (try clear hk); (try clear hi); (try clear ho0)) | ((with_reducible refine gate_dst (N := 8) rfl ?_); refine box_event ?hg (N := 8) ?hd (cs := #[.int .i64 0, .slice none 0 0]) (t := 24) ?hr ?_; (case hd => rfl); (case hg => rfl); (case hr => first | (go_simp; done) | (go_simp; rfl)); intro gb206 hg w62 hbox hb; have n0_ := Aside0.mk (Kd.R_below (kr_ HO201) hb); have n1_ := Aside0.mk (Kd.R_below (kr_ HO205) hb); have n2_ := Aside0.mk (blk_below (g := gb196) (o := .cells #[.int .i64 a0_0, .slice A0_1 l0_1.length c0_1] 24 (0, 0)) (bk_ BK196) hb); have n3_ := Aside0.mk (blk_below (g := gb197) (o := .cells #[.int .i64 0, .slice none 0 0] 24 (0, 0)) (bk_ BK197) hb); have n4_ := Aside0.mk (below_step (by repeat (first | (with_reducible first | exact HB.out | apply below_alloc | apply pw_below_drewN | apply below_drew1 | refine below_set ?_ GE196.out | refine below_set ?_ GE197.out) | exact HB.out)) hb); have n5_ := Aside0.mk (hbox); have n6_ := Aside0.mk ((by rw [hg]; exact (below_size (by repeat (first | (with_reducible first | exact HB.out | apply below_alloc | apply pw_below_drewN | apply below_drew1 | refine below_set ?_ GE196.out | refine below_set ?_ GE197.out) | exact HB.out))) : w.heap.size ≤ gb206)); have n7_ := Aside0.mk ((by rw [hg]; exact (below_size (by repeat (first | (with_reducible first | exact HB.out | apply below_alloc | apply pw_below_drewN | apply below_drew1 | refine below_set ?_ GE196.out | refine below_set ?_ GE197.out) | exact HB.out))) : w.heap.size ≤ gb206)); have n8_ := Aside0.mk ((by rw [hg]; exact Nat.ne_of_lt (blk_lt (g := gb196) (o := .cells #[.int .i64 a0_0, .slice A0_1 l0_1.length c0_1] 24 (0, 0)) (bk_ BK196)) : gb196 ≠ gb206)); have n9_ := Aside0.mk ((by rw [hg]; exact Nat.ne_of_gt (blk_lt (g := gb196) (o := .cells #[.int .i64 a0_0, .slice A0_1 l0_1.length c0_1] 24 (0, 0)) (bk_ BK196)) : gb206 ≠ gb196)); have n10_ := Aside0.mk ((by rw [hg]; exact Nat.ne_of_lt (blk_lt (g := gb197) (o := .cells #[.int .i64 0, .slice none 0 0] 24 (0, 0)) (bk_ BK197)) : gb197 ≠ gb206)); have n11_ := Aside0.mk ((by rw [hg]; exact Nat.ne_of_gt (blk_lt (g := gb197) (o := .cells #[.int .i64 0, .slice none 0 0] 24 (0, 0)) (bk_ BK197)) : gb206 ≠ gb197)); clear HO201; clear HO205; clear BK196; clear BK197; clear HB; have HO201 := n0_; have HO205 := n1_; have BK196 := n2_; have BK197 := n3_; have HB := n4_; have BK206 := n5_; have GW206 := n6_; have GE206 := n7_; have NB196_206 := n8_; have NB206_196 := n9_; have NB197_206 := n10_; have NB206_197 := n11_; clear n0_ n1_ n2_ n3_ n4_ n5_ n6_ n7_ n8_ n9_ n10_ n11_; clear hb hbox hg; have hnb63 := NB206_196.out; have hnc63 := NB196_206.out; have hnb64 := NB206_197.out; have hnc64 := NB197_206.out; have hcz65_0 : w62.cell? ⟨gb206, 0, none⟩ = some (.int .i64 0) := (blk_cell BK206.out 0).trans rfl; have hcz65_1 : w62.cell? ⟨gb206, 1, none⟩ = some (.slice none 0 0) := (blk_cell BK206.out 1).trans rfl; have hfz65_0 := blk_frozen BK206.out 0; have hfz65_1 := blk_frozen BK206.out 1; obtain ⟨Ao66, co66, eo66⟩ := Kd.R_slice HO205.out; subst eo66))
           have n0_ : Aside0 (Kd.R (Kd.int .i64) 3 ((w62.setCell ⟨gb206, 0, none⟩ (.int .i64 t202)).setCell ⟨gb206, 1, none⟩ (.slice Ao66 t203.length co66)) w.heap.size (fun k_ => some k_ ≠ (.slice Ao66 t203.length co66 : Value).ownBlock) (.slice Ao59 t199.length co59) t199) := ⟨by (with_reducible repeat (first | apply Kd.R_alloc | apply Kd.R_drewN | apply Kd.R_drew)); exact Kd.R_mono (Kd.R_far (p := ⟨gb206, 1, none⟩) (Kd.R_far (p := ⟨gb206, 0, none⟩) (Kd.R_types HO201.out BK206.out (by decide)) (fun _ hk => by first | exact hk.2 | grind) (.int .i64 t202)) (fun _ hk => by first | exact hk.2 | grind) (.slice Ao66 t203.length co66)) (fun _ hk => by first | exact hk.1.2 | grind)⟩
           have n1_ : Aside0 (Kd.R (Kd.int .i64) 3 ((w62.setCell ⟨gb206, 0, none⟩ (.int .i64 t202)).setCell ⟨gb206, 1, none⟩ (.slice Ao66 t203.length co66)) w.heap.size (fun k_ => some k_ ≠ (.slice Ao59 t199.length co59 : Value).ownBlock) (.slice Ao66 t203.length co66) t203) := ⟨by (with_reducible repeat (first | apply Kd.R_alloc | apply Kd.R_drewN | apply Kd.R_drew)); exact Kd.R_mono (Kd.R_far (p := ⟨gb206, 1, none⟩) (Kd.R_far (p := ⟨gb206, 0, none⟩) (Kd.R_types HO205.out BK206.out (by decide)) (fun _ hk => by first | exact hk.2 | grind) (.int .i64 t202)) (fun _ hk => by first | exact hk.2 | grind) (.slice Ao66 t203.length co66)) (fun _ hk => by first | exact hk.1.2 | grind)⟩
           have n2_ : Aside0 (((w62.setCell ⟨gb206, 0, none⟩ (.int .i64 t202)).setCell ⟨gb206, 1, none⟩ (.slice Ao66 t203.length co66)).heap[gb196]? = some (.cells #[.int .i64 a0_0, .slice A0_1 l0_1.length c0_1] 24 (0, 0))) := ⟨by (with_reducible repeat (first | refine blk_drewN ?_ _ | refine blk_drew ?_ | refine blk_alloc ?_ _)); refine blk_far ?_ NB196_206.out _; (with_reducible repeat (first | refine blk_drewN ?_ _ | refine blk_drew ?_ | refine blk_alloc ?_ _)); refine blk_far ?_ NB196_206.out _; exact bk_ BK196⟩
           have n3_ : Aside0 (((w62.setCell ⟨gb206, 0, none⟩ (.int .i64 t202)).setCell ⟨gb206, 1, none⟩ (.slice Ao66 t203.length co66)).heap[gb197]? = some (.cells #[.int .i64 0, .slice none 0 0] 24 (0, 0))) := ⟨by (with_reducible repeat (first | refine blk_drewN ?_ _ | refine blk_drew ?_ | refine blk_alloc ?_ _)); refine blk_far ?_ NB197_206.out _; (with_reducible repeat (first | refine blk_drewN ?_ _ | refine blk_drew ?_ | refine blk_alloc ?_ _)); refine blk_far ?_ NB197_206.out _; exact bk_ BK197⟩
           have n4_ : Aside0 (((w62.setCell ⟨gb206, 0, none⟩ (.int .i64 t202)).setCell ⟨gb206, 1, none⟩ (.slice Ao66 t203.length co66)).heap[gb206]? = some (.cells #[.int .i64 t202, .slice Ao66 t203.length co66] 24 (0, 0))) := ⟨by (with_reducible repeat (first | refine blk_drewN ?_ _ | refine blk_drew ?_ | refine blk_alloc ?_ _)); refine blk_put (cs := #[.int .i64 t202, .slice none 0 0]) ?_ 1 _ rfl; (with_reducible repeat (first | refine blk_drewN ?_ _ | refine blk_drew ?_ | refine blk_alloc ?_ _)); refine blk_put (cs := #[.int .i64 0, .slice none 0 0]) ?_ 0 _ rfl; exact bk_ BK206⟩
           have n5_ : Aside0 (Below w.heap.size w ((w62.setCell ⟨gb206, 0, none⟩ (.int .i64 t202)).setCell ⟨gb206, 1, none⟩ (.slice Ao66 t203.length co66))) := ⟨by repeat (first | (with_reducible first | exact HB.out | apply below_alloc | apply pw_below_drewN | apply below_drew1 | refine below_set ?_ GE196.out | refine below_set ?_ GE197.out | refine below_set ?_ GE206.out) | exact HB.out)⟩
           (try clear HO201)
           (try clear HO205)
           (try clear BK196)
           (try clear BK197)
           (try clear BK206)
           (try clear HB)
           generalize ((w62.setCell ⟨gb206, 0, none⟩ (.int .i64 t202)).setCell ⟨gb206, 1, none⟩ (.slice Ao66 t203.length co66)) = w67 at n0_ n1_ n2_ n3_ n4_ n5_ ⊢
           have HO201 := n0_
           have HO205 := n1_
           have BK196 := n2_
           have BK197 := n3_
           have BK206 := n4_
           have HB := n5_
           clear n0_ n1_ n2_ n3_ n4_ n5_
           have n0_ := Aside0.mk (Kd.R_drew HO201.out)
           have n1_ := Aside0.mk (Kd.R_drew HO205.out)
           have n2_ := Aside0.mk (blk_drew BK196.out)
           have n3_ := Aside0.mk (blk_drew BK197.out)
           have n4_ := Aside0.mk (blk_drew BK206.out)
           have n5_ := Aside0.mk (below_drew1 HB.out)
           clear HO201
           clear HO205
           clear BK196
           clear BK197
           clear BK206
           clear HB
           have HO201 := n0_
           have HO205 := n1_
           have BK196 := n2_
           have BK197 := n3_
           have BK206 := n4_
           have HB := n5_
           clear n0_ n1_ n2_ n3_ n4_ n5_
           have p207 : 0 ≤ ((ji25) : Int) := of_decide_eq_true (by first | (with_reducible assumption) | assumption)
           have q207 : (ji25) < (t199.length : Int) := of_decide_eq_true (by first | (with_reducible assumption) | assumption)
           obtain ⟨ad207, e207, hx207_0⟩ := Kd.at_int (Kd.R_reads' HO201.out).2.2 (ji25) p207 q207
           cases e207
           replace p207 := eq_true p207
           replace q207 := eq_true q207
           have p30 : 0 ≤ ((rd t199 (ji25)) : Int) := of_decide_eq_true (by first | (with_reducible assumption) | assumption)
           have q30 : ((rd t199 (ji25)) : Int) < ((t203.length : Int) : Int) := of_decide_eq_true (by first | (with_reducible assumption) | assumption)
           obtain ⟨go30, co30, eo30, gb30, gl30, cl30, HG30⟩ := Kd.R_form HO205.out (by omega)
           (first | cases eo30 | (injection eo30 with ea_ en_ ec_; (first | subst ea_ | (injection ea_ with ea_; subst ea_)); subst ec_; clear en_))
           have GB30 := Aside0.mk gb30
           have GG30 := Aside0.mk HG30
           clear gb30 gl30 HG30
           obtain ⟨hx30_0, hf30_0⟩ := Kd.R_celln 0 HO205.out ((rd t199 (ji25)) : Int) p30 q30
           replace p30 := eq_true p30
           replace q30 := eq_true q30
           have HP69 := Kd.R_putn HO205.out ((rd t199 (ji25)) : Int) (-1)
           rw [← Ny208.out] at HP69
           have HQ69 := Aside0.mk HP69
           clear HP69
           refine start_ (n := 9) (S := fun w' => w'.cell? ⟨gb206, 0, none⟩ = some (.int .i64 t202) ∧ w'.cell? ⟨gb206, 1, none⟩ = some (.slice (some ⟨go30, 0, none⟩) t203.length co66) ∧ w'.cell? (ad207.add ((ji25)).toNat) = some (.int .i64 (rd t199 (ji25)))) (ds := [8]) (bs 9 0) (by kernel_rfl) rfl rfl ⟨(blk_cell BK206.out 0).trans rfl, (blk_cell BK206.out 1).trans rfl, hx207_0⟩ (fun hHeld => ?_); refine with_tabW spec_SlabTake.tab7 spec_SlabTake.bits7 (fun HT_ HW_ => ?_)
           generalize w67.drew = w68 at HO201 HO205 BK196 BK197 BK206 HB GG30 HQ69 hf30_0 hx207_0 hx30_0 hHeld ⊢
           refine pure_s (i := 0) (N := some 28) (bs 9 1) (any_of HT_.out (by kernel_rfl)) (h := ?_)
           refine pure_s (i := 2) (N := some 30) #[oT,oF,oT,oF,oF,oF,oF,oF,oF] (any_of HT_.out (by kernel_rfl)) (h := ?_)
           refine pure_s (i := 3) (N := some 31) #[oT,oF,oT,oT,oF,oF,oF,oF,oF] (any_of HT_.out (by kernel_rfl)) (h := ?_)
           refine pure_s (i := 4) (N := some 32) #[oT,oF,oT,oT,oT,oF,oF,oF,oF] (any_of HT_.out (by kernel_rfl)) (h := ?_)
           refine pure_s (i := 5) (N := some 33) #[oT,oF,oT,oT,oT,oT,oF,oF,oF] (any_of HT_.out (by kernel_rfl)) (h := ?_)
           refine take_ (i := 1) (N := some 29) (v := ?_) (a' := ?_) (bs 9 6) rfl rfl (take_ofW HT_.out HW_.out (by kernel_rfl)) (fun _ _ _ h => h) (Or.inl ⟨by rfl, ?_⟩) hHeld ?_ ?_
           rotate_left
           ·rintro w' ⟨s0, s1, s2⟩
            go_simp
            with_reducible rfl
           rotate_left
           ·simp only [Act.put, List.setIfInBounds_toArray, List.set_cons_zero, List.set_cons_succ, i64_w, i32_w]
            rfl
           refine take_ (i := 6) (N := some 34) (v := ?_) (a' := ?_) (bs 9 7) rfl rfl (take_ofW HT_.out HW_.out (by kernel_rfl)) (fun _ _ _ h => h) (Or.inl ⟨by rfl, ?_⟩) hHeld ?_ ?_
           rotate_left
           ·rintro w' ⟨s0, s1, s2⟩
            go_simp
            with_reducible rfl
           rotate_left
           ·simp only [Act.put, List.setIfInBounds_toArray, List.set_cons_zero, List.set_cons_succ, i64_w, i32_w]
            rfl
           refine pure_s (i := 7) (N := some 35) (bs 9 8) (any_of HT_.out (by kernel_rfl)) (h := ?_)
           refine last_ (i := 8) (N := none) (bs 9 9) rfl rfl (one_of HT_.out (by kernel_rfl)) (by decide) (fun K hK => ?_)
           refine skip_ (w1 := ?_) (by rfl) rfl ?_ ?_
           rotate_left
           ·go_simp
            rfl
           refine hK.out _ _ ?_
           clear hK K
           refine done_ (done_of HT_.out (by kernel_rfl)) ?_
           have n0_ : Aside0 (Kd.R (Kd.int .i64) 3 (w68.setCell ⟨go30, ((rd t199 (ji25)) : Int).toNat, none⟩ (.int .i64 (-1))) w.heap.size (fun k_ => some k_ ≠ (.slice (some ⟨go30, 0, none⟩) t203.length co66 : Value).ownBlock) (.slice (some ad207) t199.length co59) t199) := ⟨by (with_reducible repeat (first | apply Kd.R_alloc | apply Kd.R_drewN | apply Kd.R_drew)); exact Kd.R_mono (Kd.R_far (p := ⟨go30, ((rd t199 (ji25)) : Int).toNat, none⟩) (Kd.R_mono HO201.out (fun k_ hk => by first | exact (⟨hk, fun e_ => hk (by rw [e_]; rfl)⟩ : _ ∧ k_ ≠ go30) | grind)) (fun _ hk => by first | exact hk.2 | grind) (.int .i64 (-1))) (fun _ hk => by first | exact hk.1 | grind)⟩
           have n1_ : Aside0 (Kd.R (Kd.int .i64) 3 (w68.setCell ⟨go30, ((rd t199 (ji25)) : Int).toNat, none⟩ (.int .i64 (-1))) w.heap.size (fun k_ => some k_ ≠ (.slice (some ad207) t199.length co59 : Value).ownBlock) (.slice (some ⟨go30, 0, none⟩) t203.length co66) y208) := ⟨kr_ HQ69⟩
           have n2_ : Aside0 ((w68.setCell ⟨go30, ((rd t199 (ji25)) : Int).toNat, none⟩ (.int .i64 (-1))).heap[gb196]? = some (.cells #[.int .i64 a0_0, .slice A0_1 l0_1.length c0_1] 24 (0, 0))) := ⟨by (with_reducible repeat (first | refine blk_drewN ?_ _ | refine blk_drew ?_ | refine blk_alloc ?_ _)); refine blk_far ?_ (by have h_ := Kd.R_ne HO205.out BK196.out (by decide); intro e_; exact h_ (by rw [e_]; rfl)) _; exact bk_ BK196⟩
           have n3_ : Aside0 ((w68.setCell ⟨go30, ((rd t199 (ji25)) : Int).toNat, none⟩ (.int .i64 (-1))).heap[gb197]? = some (.cells #[.int .i64 0, .slice none 0 0] 24 (0, 0))) := ⟨by (with_reducible repeat (first | refine blk_drewN ?_ _ | refine blk_drew ?_ | refine blk_alloc ?_ _)); refine blk_far ?_ (by have h_ := Kd.R_ne HO205.out BK197.out (by decide); intro e_; exact h_ (by rw [e_]; rfl)) _; exact bk_ BK197⟩
           have n4_ : Aside0 ((w68.setCell ⟨go30, ((rd t199 (ji25)) : Int).toNat, none⟩ (.int .i64 (-1))).heap[gb206]? = some (.cells #[.int .i64 t202, .slice (some ⟨go30, 0, none⟩) t203.length co66] 24 (0, 0))) := ⟨by (with_reducible repeat (first | refine blk_drewN ?_ _ | refine blk_drew ?_ | refine blk_alloc ?_ _)); refine blk_far ?_ (by have h_ := Kd.R_ne HO205.out BK206.out (by decide); intro e_; exact h_ (by rw [e_]; rfl)) _; exact bk_ BK206⟩
           have n5_ : Aside0 (Below w.heap.size w (w68.setCell ⟨go30, ((rd t199 (ji25)) : Int).toNat, none⟩ (.int .i64 (-1)))) := ⟨by repeat (first | (with_reducible first | exact HB.out | apply below_alloc | apply pw_below_drewN | apply below_drew1 | refine below_set ?_ GB30.out | refine below_set ?_ GE196.out | refine below_set ?_ GE197.out | refine below_set ?_ GE206.out) | exact HB.out)⟩
           (try clear HO201)
           (try clear HO205)
           (try clear BK196)
           (try clear BK197)
           (try clear BK206)
           (try clear HB)
           generalize (w68.setCell ⟨go30, ((rd t199 (ji25)) : Int).toNat, none⟩ (.int .i64 (-1))) = w70 at n0_ n1_ n2_ n3_ n4_ n5_ ⊢
           have HO201 := n0_
           have HO205 := n1_
           have BK196 := n2_
           have BK197 := n3_
           have BK206 := n4_
           have HB := n5_
           clear n0_ n1_ n2_ n3_ n4_ n5_
           have hcz71_0 : w70.cell? ⟨gb206, 0, none⟩ = some (.int .i64 t202) := (blk_cell BK206.out 0).trans rfl
           have hcz71_1 : w70.cell? ⟨gb206, 1, none⟩ = some (.slice (some ⟨go30, 0, none⟩) t203.length co66) := (blk_cell BK206.out 1).trans rfl
           have hfz71_0 := blk_frozen BK206.out 0
           have hfz71_1 := blk_frozen BK206.out 1
           try go_wp2
           have n0_ : Aside0 (Kd.R (Kd.int .i64) 3 (w70.setCell ⟨gb206, 0, none⟩ (.int .i64 (-1))) w.heap.size (fun k_ => some k_ ≠ (.slice (some ⟨go30, 0, none⟩) t203.length co66 : Value).ownBlock) (.slice (some ad207) t199.length co59) t199) := ⟨by (with_reducible repeat (first | apply Kd.R_alloc | apply Kd.R_drewN | apply Kd.R_drew)); exact Kd.R_mono (Kd.R_far (p := ⟨gb206, 0, none⟩) (Kd.R_types HO201.out BK206.out (by decide)) (fun _ hk => by first | exact hk.2 | grind) (.int .i64 (-1))) (fun _ hk => by first | exact hk.1 | grind)⟩
           have n1_ : Aside0 (Kd.R (Kd.int .i64) 3 (w70.setCell ⟨gb206, 0, none⟩ (.int .i64 (-1))) w.heap.size (fun k_ => some k_ ≠ (.slice (some ad207) t199.length co59 : Value).ownBlock) (.slice (some ⟨go30, 0, none⟩) t203.length co66) y208) := ⟨by (with_reducible repeat (first | apply Kd.R_alloc | apply Kd.R_drewN | apply Kd.R_drew)); exact Kd.R_mono (Kd.R_far (p := ⟨gb206, 0, none⟩) (Kd.R_types HO205.out BK206.out (by decide)) (fun _ hk => by first | exact hk.2 | grind) (.int .i64 (-1))) (fun _ hk => by first | exact hk.1 | grind)⟩
           have n2_ : Aside0 ((w70.setCell ⟨gb206, 0, none⟩ (.int .i64 (-1))).heap[gb196]? = some (.cells #[.int .i64 a0_0, .slice A0_1 l0_1.length c0_1] 24 (0, 0))) := ⟨by (with_reducible repeat (first | refine blk_drewN ?_ _ | refine blk_drew ?_ | refine blk_alloc ?_ _)); refine blk_far ?_ NB196_206.out _; exact bk_ BK196⟩
           have n3_ : Aside0 ((w70.setCell ⟨gb206, 0, none⟩ (.int .i64 (-1))).heap[gb197]? = some (.cells #[.int .i64 0, .slice none 0 0] 24 (0, 0))) := ⟨by (with_reducible repeat (first | refine blk_drewN ?_ _ | refine blk_drew ?_ | refine blk_alloc ?_ _)); refine blk_far ?_ NB197_206.out _; exact bk_ BK197⟩
           have n4_ : Aside0 ((w70.setCell ⟨gb206, 0, none⟩ (.int .i64 (-1))).heap[gb206]? = some (.cells #[.int .i64 (-1), .slice (some ⟨go30, 0, none⟩) t203.length co66] 24 (0, 0))) := ⟨by (with_reducible repeat (first | refine blk_drewN ?_ _ | refine blk_drew ?_ | refine blk_alloc ?_ _)); refine blk_put (cs := #[.int .i64 t202, .slice (some ⟨go30, 0, none⟩) t203.length co66]) ?_ 0 _ rfl; exact bk_ BK206⟩
           have n5_ : Aside0 (Below w.heap.size w (w70.setCell ⟨gb206, 0, none⟩ (.int .i64 (-1)))) := ⟨by repeat (first | (with_reducible first | exact HB.out | apply below_alloc | apply pw_below_drewN | apply below_drew1 | refine below_set ?_ GE196.out | refine below_set ?_ GE197.out | refine below_set ?_ GE206.out) | exact HB.out)⟩
           (try clear HO201)
           (try clear HO205)
           (try clear BK196)
           (try clear BK197)
           (try clear BK206)
           (try clear HB)
           generalize (w70.setCell ⟨gb206, 0, none⟩ (.int .i64 (-1))) = w72 at n0_ n1_ n2_ n3_ n4_ n5_ ⊢
           have HO201 := n0_
           have HO205 := n1_
           have BK196 := n2_
           have BK197 := n3_
           have BK206 := n4_
           have HB := n5_
           clear n0_ n1_ n2_ n3_ n4_ n5_
           have n0_ := Aside0.mk (Kd.R_drew HO201.out)
           have n1_ := Aside0.mk (Kd.R_drew HO205.out)
           have n2_ := Aside0.mk (blk_drew BK196.out)
           have n3_ := Aside0.mk (blk_drew BK197.out)
           have n4_ := Aside0.mk (blk_drew BK206.out)
           have n5_ := Aside0.mk (below_drew1 HB.out)
           clear HO201
           clear HO205
           clear BK196
           clear BK197
           clear BK206
           clear HB
           have HO201 := n0_
           have HO205 := n1_
           have BK196 := n2_
           have BK197 := n3_
           have BK206 := n4_
           have HB := n5_
           clear n0_ n1_ n2_ n3_ n4_ n5_
           have p211 : 0 ≤ (0 : Int) := (by omega)
           have q211 : 0 < (t199.length : Int) := of_decide_eq_true (by first | (with_reducible assumption) | assumption)
           obtain ⟨ad211, e211, hx211_0⟩ := Kd.at_int (Kd.R_reads' HO201.out).2.2 0 p211 q211
           obtain rfl : ad207 = ad211 := (by injection e211)
           have qi211 : (0 < t199.length) = True := eq_true (by omega)
           (try rw [show ((0 : Int)).toNat = 0 from rfl] at hx211_0)
           (try rw [Addr.add_zero'] at hx211_0)
           replace p211 := eq_true p211
           replace q211 := eq_true q211
           refine start_ (n := 7) (S := fun w' => w'.cell? ⟨gb206, 0, none⟩ = some (.int .i64 (-1)) ∧ w'.cell? ⟨gb206, 1, none⟩ = some (.slice (some ⟨go30, 0, none⟩) t203.length co66) ∧ w'.cell? ad207 = some (.int .i64 (rd t199 0))) (ds := []) (bs 7 0) (by kernel_rfl) rfl rfl ⟨(blk_cell BK206.out 0).trans rfl, (blk_cell BK206.out 1).trans rfl, hx211_0⟩ (fun hHeld => ?_)
           generalize w72.drew = w73 at HO201 HO205 BK196 BK197 BK206 HB hx211_0 hHeld ⊢
           refine pure_s (i := 1) (N := some 47) #[oF,oT,oF,oF,oF,oF,oF] (by kernel_rfl) (h := ?_)
           refine pure_s (i := 2) (N := some 48) #[oF,oT,oT,oF,oF,oF,oF] (by kernel_rfl) (h := ?_)
           refine take_ (i := 0) (N := some 46) (v := ?_) (a' := ?_) (bs 7 3) rfl rfl (by kernel_rfl) (fun _ _ _ h => h) (Or.inl ⟨by rfl, ?_⟩) hHeld ?_ ?_
           rotate_left
           ·rintro w' ⟨s0, s1, s2⟩
            go_simp
            with_reducible rfl
           rotate_left
           ·simp only [Act.put, List.setIfInBounds_toArray, List.set_cons_zero, List.set_cons_succ, i64_w, i32_w]
            rfl
           refine take_ (i := 3) (N := some 49) (v := ?_) (a' := ?_) (bs 7 4) rfl rfl (by kernel_rfl) (fun _ _ _ h => h) (Or.inl ⟨by rfl, ?_⟩) hHeld ?_ ?_
           rotate_left
           ·rintro w' ⟨s0, s1, s2⟩
            go_simp
            with_reducible rfl
           rotate_left
           ·simp only [Act.put, List.setIfInBounds_toArray, List.set_cons_zero, List.set_cons_succ, i64_w, i32_w]
            rfl
           refine one_ (i := 4) (N := none) (bs 7 5) rfl rfl (by kernel_rfl) (by decide) (fun K hK => ?_)
           have hs74 : w73.cell? ⟨gb197, 0, none⟩ = some (.int .i64 0) := (blk_cell BK197.out 0).trans rfl
           have hfs74 := blk_frozen BK197.out 0
           have hns74_0 := NB196_197.out
           have hns74_2 := NB206_197.out
           have hms74_0 := NB197_196.out
           have hms74_2 := NB197_206.out
           have hs75 : w73.cell? ⟨gb197, 1, none⟩ = some (.slice none 0 0) := (blk_cell BK197.out 1).trans rfl
           have hfs75 := blk_frozen BK197.out 1
           have hns75_0 := NB196_197.out
           have hns75_2 := NB206_197.out
           have hms75_0 := NB197_196.out
           have hms75_2 := NB197_206.out
           refine skip_ (w1 := ?_) (by rfl) rfl ?_ ?_
           rotate_left
           ·go_simp
            rfl
           refine hK.out _ _ ⟨((cell_far (p := ⟨gb197, _, none⟩) NB206_197.out _).trans (((cell_far (p := ⟨gb197, _, none⟩) NB206_197.out _).trans (hHeld.1)))), ((cell_far (p := ⟨gb197, _, none⟩) NB206_197.out _).trans (((cell_far (p := ⟨gb197, _, none⟩) NB206_197.out _).trans (hHeld.2.1)))), ((cell_far (p := ⟨gb197, _, none⟩) (by first | exact Kd.own_blk (Kd.R_ne HO201.out BK197.out (by decide)) | (rw [add_block]; exact Kd.own_blk (Kd.R_ne HO201.out BK197.out (by decide))) | (show (Addr.add _ _).block ≠ _; rw [add_block]; exact Kd.own_blk (Kd.R_ne HO201.out BK197.out (by decide))) | (dsimp only; exact Kd.own_blk (Kd.R_ne HO201.out BK197.out (by decide)))) _).trans (((cell_far (p := ⟨gb197, _, none⟩) (by first | exact Kd.own_blk (Kd.R_ne HO201.out BK197.out (by decide)) | (rw [add_block]; exact Kd.own_blk (Kd.R_ne HO201.out BK197.out (by decide))) | (show (Addr.add _ _).block ≠ _; rw [add_block]; exact Kd.own_blk (Kd.R_ne HO201.out BK197.out (by decide))) | (dsimp only; exact Kd.own_blk (Kd.R_ne HO201.out BK197.out (by decide)))) _).trans (hHeld.2.2))))⟩ (fun hHeld => ?_)
           clear hK K
           refine pure_s (i := 5) (N := some 5) (bs 7 6) (by kernel_rfl) (h := ?_)
           refine pure_s (i := 6) (N := some 6) (bs 7 7) (by kernel_rfl) (h := ?_)
           refine done_ (by kernel_rfl) ?_
           try go_wp2
           refine bodyPost_ret (results_ctt rfl _ _ gb197 24 #[.int .i64 (-1), .slice (some ⟨go30, 0, none⟩) t203.length co66] (0, 0) _ rfl (by (with_reducible repeat (first | refine blk_drewN ?_ _ | refine blk_drew ?_ | refine blk_alloc ?_ _)); refine blk_put (cs := #[.int .i64 (-1), .slice none 0 0]) ?_ 1 _ rfl; (with_reducible repeat (first | refine blk_drewN ?_ _ | refine blk_drew ?_ | refine blk_alloc ?_ _)); refine blk_put (cs := #[.int .i64 0, .slice none 0 0]) ?_ 0 _ rfl; exact bk_ BK197) Try.underlying24 rfl (by kernel_rfl)) rfl ?_
           exact ⟨_, by first | rfl | (simp [errW_none, errW_some] <;> rfl) | (simp only [← hji25]; first | rfl | (simp [errW_none, errW_some] <;> rfl)) | (simp [*, errW_none, errW_some] <;> rfl), by (with_reducible repeat (first | apply Kd.R_alloc | apply Kd.R_drewN | apply Kd.R_drew)); exact Kd.R_mono (Kd.R_far (p := ⟨gb197, 1, none⟩) (Kd.R_far (p := ⟨gb197, 0, none⟩) (Kd.R_types HO205.out BK197.out (by decide)) (fun _ hk => by first | exact hk.2 | grind) (.int .i64 (-1))) (fun _ hk => by first | exact hk.2 | grind) (.slice (some ⟨go30, 0, none⟩) t203.length co66)) (fun _ hk => by first | exact trivial | grind), by repeat (first | (with_reducible first | exact HB.out | apply below_alloc | apply pw_below_drewN | apply below_drew1 | refine below_set ?_ GE196.out | refine below_set ?_ GE197.out | refine below_set ?_ GE206.out) | exact HB.out)⟩
          ·rw [if_neg c55] at H
           exact absurd H (by simp)
        ·rw [if_neg c29] at H
         exact absurd H (by simp)
       ·rw [if_neg c28] at H
        exact absurd H (by simp)
      ·rw [if_neg c27] at H
       exact absurd H (by simp)
     ·rw [if_neg c26] at H
      exact absurd H (by simp)

end Go.Proofs.Ytaglpjlapfocfaa.PFnTakeGive
