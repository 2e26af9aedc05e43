-- printed by a program of this session (wip/printx) out of the translation; Lean checks it
import Derived.Test.YtnklakficjpmoaaVFnExactHeapDrop
import Derived.Test.YtnklakficjpmoaaPFnExactHeapDropx0
import Derived.Test.YtnklakficjpmoaaPFnExactHeapDropx1
import Derived.Test.YtnklakficjpmoaaPFnExactHeapDropx2
namespace Go.Proofs.Ytnklakficjpmoaa.PFnExactHeapDrop
open Go.RowKit Go.Proofs.YtnklakficjpmoaaW.PrintWords Go.Proofs.YtnklakficjpmoaaW.PrintLast Go.Proofs.YtnklakficjpmoaaW.PrintMore
attribute [local go_sem] max2_int min2_int max_two min_two max_three min_three max_four min_four   -- for this text's walks alone
set_option linter.unusedVariables false
set_option linter.unusedSimpArgs false

/-! ### spec_l15Up: function 131 -/
mutual
def spec_l15Up.j0 : Nat → List (S68) → Int → Bool → Option ((List (S68)) × Int)
  | 0, _, _, _ => none
  | k + 1, x0, x1, x21 => if x21 = true then (some (x0, x1)) else ((spec_l15Swap.f x0 x1 (wrap64 (Int.tdiv (wrap64 (x1 - 1)) 2))).bind fun t157 => ((spec_l15Up.f k t157 (wrap64 (Int.tdiv (wrap64 (x1 - 1)) 2))).bind fun bt160 => (some (bt160.1, bt160.2))))
def spec_l15Up.f : Nat → List (S68) → Int → Option ((List (S68)) × Int)
  | 0, _, _ => none
  | k + 1, l0, a1 => if a1 = 0 then (spec_l15Up.j0 k l0 a1 true) else (if 0 ≤ a1 then (if a1 < (l0.length : Int) then (if 0 ≤ (wrap64 (Int.tdiv (wrap64 (a1 - 1)) 2)) then (if (wrap64 (Int.tdiv (wrap64 (a1 - 1)) 2)) < (l0.length : Int) then ((spec_Ahead.f ((rd_T68 l0 a1).f0) ((rd_T68 l0 a1).f1) ((rd_T68 l0 (wrap64 (Int.tdiv (wrap64 (a1 - 1)) 2))).f0) ((rd_T68 l0 (wrap64 (Int.tdiv (wrap64 (a1 - 1)) 2))).f1)).bind fun t156 => (spec_l15Up.j0 k l0 a1 (!t156))) else (none)) else (none)) else (none)) else (none))
end
theorem spec_l15Up.mono_l : ∀ k, (∀ y0 y1, LeO (spec_l15Up.f k y0 y1) (spec_l15Up.f (k + 1) y0 y1)) ∧ (∀ y0 y1 y2, LeO (spec_l15Up.j0 k y0 y1 y2) (spec_l15Up.j0 (k + 1) y0 y1 y2))
 | 0 => ⟨fun _ _ r h => by simp [spec_l15Up.f] at h, fun _ _ _ r h => by simp [spec_l15Up.j0] at h⟩
 | k + 1 => by
  obtain ⟨ih0, ih1⟩ := spec_l15Up.mono_l k
  refine ⟨?_, ?_⟩ <;> intros <;> (first | unfold spec_l15Up.f | unfold spec_l15Up.j0) <;> repeat' (first | (with_reducible exact ih0 ..) | (with_reducible exact ih1 ..) | (with_reducible exact LeO.refl _) | (with_reducible exact LeO.none _) | (with_reducible refine LeO.ite ?_ ?_) | (with_reducible refine LeO.bind ?_ (fun _ => ?_)) | exact ih0 .. | exact ih1 .. | exact LeO.none _ | refine LeO.ite ?_ ?_ | refine LeO.bind ?_ (fun _ => ?_))
theorem spec_l15Up.mono : ∀ a0 a1 k, LeO (spec_l15Up.f k a0 a1) (spec_l15Up.f (k + 1) a0 a1) := by
 intro a0 a1 k
 obtain ⟨ih0, ih1⟩ := spec_l15Up.mono_l k
 exact ih0 a0 a1
def spec_l15Up.T1 : Bool × List (List Nat × List Nat) := (true, [([], []), ([0], [0]), ([1], [1]), ([2], [2]), ([2], [2]), ([3, 4, 2], [2, 3, 4]), ([5, 2], [2, 5]), ([2], [2]), ([2], [2]), ([8, 2], [2, 8]), ([9, 2], [2, 9]), ([7, 10, 2], [2, 7, 10]), ([11, 2], [2, 11]), ([6, 12, 2, 2], [2, 6, 12]), ([13, 2], [2, 13]), ([2, 14], [2, 14])])
def spec_l15Up.B1 : List Nat := [0, 1, 3, 7, 7, 31, 63, 7, 7, 263, 775, 1927, 3975, 8191, 16383, 32767]
theorem spec_l15Up.tab1 : rtab .any (opsOf Try.f131 1) = spec_l15Up.T1 := by kernel_rfl
theorem spec_l15Up.bits1 : waitsOk spec_l15Up.T1.2 spec_l15Up.B1 = true := by kernel_rfl
set_option maxHeartbeats 8000000 in
set_option maxRecDepth 100000 in
theorem spec_l15Up.calls (k : Nat) : ∀ (P0_ : Nat → Prop) (u9000_ : Value) (l0 : List (S68)) (a1 : Int) (r1 : List (S68)) (r2 : Int) (w0 w : World) (hB : Below w0.heap.size w0 w) (ho0 : Kd.R k68 68 w w0.heap.size P0_ u9000_ l0) (h : spec_l15Up.f k l0 a1 = some (r1, r2)),
  Calls Try.prog 131 #[u9000_, .int .i64 a1] w fun e w' => ∃ v0_ : Value, e = .returned (.tuple #[v0_, .int .i64 r2]) ∧ Kd.R k68 68 w' w0.heap.size (fun k_ => (P0_ k_ ∨ w.heap.size ≤ k_)) v0_ r1 ∧ Below w0.heap.size w0 w' ∧ Kept w w' (fun k_ => P0_ k_) := by
 induction k using Nat.strongRecOn with
 | _ k ih =>
 intro P0_ u9000_ l0 a1 r1 r2 w0 w hB ho0 h
 cases k with
 | zero => exact absurd h (by simp [spec_l15Up.f])
 | succ k =>
 simp only [spec_l15Up.f] at h
 have hu68 := Try.underlying68
 have HO0 := Aside0.mk (show Kd.R k68 68 w w0.heap.size (fun k_ => (P0_ k_ ∨ w.heap.size ≤ k_)) u9000_ l0 from Kd.R_mono ho0 (fun k_ hk => by first | exact (.inl hk) | grind))
 have HK := Aside0.mk (Kept.refl w (fun k_ => P0_ k_))
 have HW0 := Aside0.mk hB.size
 have HB := Aside0.mk hB; clear hB
 have H := h
 clear h
 unfold spec_l15Up.f at H
 have HC3 := Aside0.mk H
 clear H
 go_enter Try.func131, Try.ntmps131
 go_upto_region 1 with (fail)
 go_cut [21] (fun v21 wc => ∃ (kq : Nat) (x21_2 : Bool), v21 = .bool x21_2 ∧ Aside0 (spec_l15Up.j0 kq l0 a1 x21_2 = some (r1, r2)) ∧ Aside0 (kq ≤ k) ∧ Aside0 (Kd.R k68 68 wc w0.heap.size (fun k_ => (P0_ k_ ∨ w.heap.size ≤ k_)) u9000_ l0) ∧ Aside0 (Kept w wc (fun k_ => P0_ k_)) ∧ Aside0 (Below w0.heap.size w0 wc))
 case first =>
  have H := HC3.out
  clear HC3
  by_cases c4 : a1 = 0
  ·rw [if_pos c4] at H
   have c4b0 : (a1 == 0) = true := beq_iff_eq.mpr c4
   have c4b1 : (a1 != 0) = false := bne_eq_false_iff_eq.mpr c4
   clear c4
   (first | rw [c4b0] | (simp only [i64_w, i32_w]; rw [c4b0]) | skip)
   have H' := Aside0.mk H
   clear H
   try go_wp2
   have n0_ := Aside0.mk (Kd.R_drew HO0.out); have n1_ := Aside0.mk (Kept.drew HK.out); have n2_ := Aside0.mk (below_drew1 HB.out); clear HO0 HK HB; have HO0 := n0_
   have HK := n1_
   have HB := n2_; clear n0_ n1_ n2_
   refine start_ (n := 16) (S := fun w' => True) (ds := []) (bs 16 0) (by kernel_rfl) rfl rfl trivial (fun hHeld => ?_); refine with_tabW spec_l15Up.tab1 spec_l15Up.bits1 (fun HT_ HW_ => ?_)
   generalize w.drew = w5 at HO0 HK HB hHeld ⊢
   iterate 3 (refine psn_ HT_ ?_)
   iterate 12 (refine pun_ HT_ ?_)
   refine psn_ HT_ ?_
   refine done_ (done_of HT_.out (by kernel_rfl)) ?_
   try go_wp2
   go_meet
   case rel => exact ⟨_, (true), (by first | rfl | (simp; done) | (simp [*]; done)), H', ⟨by first | omega | exact Nat.le_refl _⟩, ⟨kr_ HO0⟩, ⟨by repeat (first | (with_reducible first | exact HK.out | apply Kept.alloc | apply Kept.drewN | apply Kept.drew) | exact HK.out)⟩, ⟨be_ HB⟩⟩
  ·rw [if_neg c4] at H
   have c4b0 : (a1 == 0) = false := beq_eq_false_iff_ne.mpr c4
   have c4b1 : (a1 != 0) = true := bne_iff_ne.mpr c4
   (first | rw [c4b0] | (simp only [i64_w, i32_w]; rw [c4b0]) | skip)
   by_cases c6 : 0 ≤ a1
   ·rw [if_pos c6] at H
    have c6b0 : decide (0 ≤ a1) = true := decide_eq_true c6
    clear c6
    by_cases c7 : a1 < (l0.length : Int)
    ·rw [if_pos c7] at H
     have c7b0 : decide (a1 < (l0.length : Int)) = true := decide_eq_true c7
     clear c7
     obtain ⟨ji8, hji8⟩ : ∃ j_ : Int, (wrap64 (Int.tdiv (wrap64 (a1 - 1)) 2)) = j_ := ⟨_, rfl⟩
     replace H : (if 0 ≤ (ji8) then (if (ji8) < (l0.length : Int) then ((spec_Ahead.f ((rd_T68 l0 a1).f0) ((rd_T68 l0 a1).f1) ((rd_T68 l0 (ji8)).f0) ((rd_T68 l0 (ji8)).f1)).bind fun t156 => (spec_l15Up.j0 k l0 a1 (!t156))) else (none)) else (none)) = some (r1, r2) := by first | (rw [hji8] at H; exact H) | (simp only [hji8] at H ⊢; exact H)
     have hji8w : (IntKind.i64.wrap (Int.tdiv (wrap64 (a1 - 1)) 2)) = ji8 := (i64_w _).trans hji8
     by_cases c9 : 0 ≤ (ji8)
     ·rw [if_pos c9] at H
      have c9b0 : decide (0 ≤ (ji8)) = true := decide_eq_true c9
      clear c9
      by_cases c10 : (ji8) < (l0.length : Int)
      ·rw [if_pos c10] at H
       have c10b0 : decide ((ji8) < (l0.length : Int)) = true := decide_eq_true c10
       clear c10
       replace H := Option.bind_eq_some_iff.mp H
       obtain ⟨t156, A110, H⟩ := H
       have A11 := Aside0.mk A110
       clear A110
       have H' := Aside0.mk H
       clear H
       try go_wp2
       have n0_ := Aside0.mk (Kd.R_drew HO0.out); have n1_ := Aside0.mk (Kept.drew HK.out); have n2_ := Aside0.mk (below_drew1 HB.out); clear HO0 HK HB; have HO0 := n0_
       have HK := n1_
       have HB := n2_; clear n0_ n1_ n2_
       obtain ⟨Ao13, co13, eo13⟩ := Kd.R_slice HO0.out
       (first | subst eo13 | (injection eo13 with f1_ f2_ f3_; have f4_ := f1_.symm; have f5_ := f3_.symm; clear f1_ f2_ f3_; subst f4_; subst f5_))
       have p154 : 0 ≤ (a1 : Int) := od_
       have q154 : a1 < (l0.length : Int) := od_
       obtain ⟨ad154, e154, hx154_0, hx154_1⟩ := at_T68 (Kd.R_reads' HO0.out).2.2 a1 p154 q154
       cases e154
       replace p154 := eq_true p154
       replace q154 := eq_true q154
       have p155 : 0 ≤ ((ji8) : Int) := od_
       have q155 : (ji8) < (l0.length : Int) := od_
       obtain ⟨ad155, e155, hx155_0, hx155_1⟩ := at_T68 (Kd.R_reads' HO0.out).2.2 (ji8) p155 q155
       obtain rfl : ad154 = ad155 := (by injection e155)
       replace p155 := eq_true p155
       replace q155 := eq_true q155
       refine start_ (n := 16) (S := fun w' => w'.cell? (ad154.add ((a1).toNat * 2)) = some (.int .i64 ((rd_T68 l0 a1).f0)) ∧ w'.cell? ⟨(ad154.add ((a1).toNat * 2)).block, (ad154.add ((a1).toNat * 2)).off + 1, none⟩ = some (.int .i64 ((rd_T68 l0 a1).f1)) ∧ w'.cell? (ad154.add (((ji8)).toNat * 2)) = some (.int .i64 ((rd_T68 l0 (ji8)).f0)) ∧ w'.cell? ⟨(ad154.add (((ji8)).toNat * 2)).block, (ad154.add (((ji8)).toNat * 2)).off + 1, none⟩ = some (.int .i64 ((rd_T68 l0 (ji8)).f1))) (ds := []) (bs 16 0) (by kernel_rfl) rfl rfl ⟨hx154_0, hx154_1, hx155_0, hx155_1⟩ (fun hHeld => ?_); refine with_tabW spec_l15Up.tab1 spec_l15Up.bits1 (fun HT_ HW_ => ?_)
       generalize w.drew = w12 at HO0 HK HB hx154_0 hx154_1 hx155_0 hx155_1 hHeld ⊢
       iterate 6 (refine psn_ HT_ ?_)
       refine ps_ 7 13 (bm 16 191) HT_ ?_
       refine ps_ 8 14 (bm 16 447) HT_ ?_
       refine ps_ 9 15 (bm 16 959) HT_ ?_
       refine ps_ 10 16 (bm 16 1983) HT_ ?_
       refine ps_ 11 17 (bm 16 4031) HT_ ?_
       refine tk_ 6 12 (bs 16 12) HT_ HW_ hHeld ?_
       refine tkn_ HT_ HW_ hHeld ?_
       refine on_ 13 (some 19) (bs 16 14) HT_ (fun K hK => ?_)
       refine goes_ Try.func46 (by kernel_rfl) rfl #[.agg #[.int .i64 ((rd_T68 l0 a1).f0), .int .i64 ((rd_T68 l0 a1).f1)], .agg #[.int .i64 ((rd_T68 l0 (ji8)).f0), .int .i64 ((rd_T68 l0 (ji8)).f1)]] (by rfl) rfl rfl (by (try simp only [List.map_toArray, List.map_cons, List.map_nil]); first | done | (simp only [hji8]; rfl) | rfl | (simp only [List.length_drop, List.length_take]; rfl)) ?_
       with_reducible refine (spec_Ahead.calls ((rd_T68 l0 a1).f0) ((rd_T68 l0 a1).f1) ((rd_T68 l0 (ji8)).f0) ((rd_T68 l0 (ji8)).f1) t156 _ A11.out).mono ?_
       rintro e w14 ⟨rfl, hb⟩
       have HS0_ := hc_ hb hHeld.1
       have HS1_ := hc_ hb hHeld.2.1
       have HS2_ := hc_ hb hHeld.2.2.1
       have HS3_ := hc_ hb hHeld.2.2.2
       refine ⟨_, rfl, ?_⟩
       have n0_ := Aside0.mk (Kd.R_below (kr_ HO0) hb)
       have n1_ := Aside0.mk (Kept.below (S := (fun k_ => P0_ k_)) (by repeat (first | (with_reducible first | exact HK.out | apply Kept.alloc | apply Kept.drewN | apply Kept.drew) | exact HK.out)) hb)
       have n2_ := Aside0.mk (below_step (be_ HB) hb); clear HO0 HK HB; have HO0 := n0_
       have HK := n1_
       have HB := n2_; clear n0_ n1_ n2_; (try clear hb); (try clear hb2); (try clear hk); (try clear hi)
       refine hK.out _ _ ⟨HS0_, HS1_, HS2_, HS3_⟩ (fun hHeld => ?_)
       clear hK K
       refine norm_ (a' := ?_) ?_ ?_
       rotate_left
       ·show Act.put _ (some 19) _ = _
        simp only [Act.put, ls0_, ls1_, ls2_, i64_w, i32_w]
        rfl
       iterate 2 (refine psn_ HT_ ?_)
       refine done_ (done_of HT_.out (by kernel_rfl)) ?_
       try go_wp2
       (try subst hji8)
       go_meet
       case rel => exact ⟨_, (!t156), (by first | rfl | (simp; done) | (simp [*]; done)), H', ⟨by first | omega | exact Nat.le_refl _⟩, ⟨kr_ HO0⟩, ⟨by repeat (first | (with_reducible first | exact HK.out | apply Kept.alloc | apply Kept.drewN | apply Kept.drew) | exact HK.out)⟩, ⟨be_ HB⟩⟩
      ·rw [if_neg c10] at H
       exact absurd H (by simp)
     ·rw [if_neg c9] at H
      exact absurd H (by simp)
    ·rw [if_neg c7] at H
     exact absurd H (by simp)
   ·rw [if_neg c6] at H
    exact absurd H (by simp)
 case rest =>
  clear HC3; (try clear c1); (try clear p1); (try clear q1); (try clear hx1); (try clear p2); (try clear c4); (try clear c4b0); (try clear c4b1); (try clear c6); (try clear c6b0); (try clear p6); (try clear c7); (try clear c7b0); (try clear c9); (try clear c9b0); (try clear c10); (try clear c10b0); (try clear c13); (try clear hx154_0); (try clear hx154_1); (try clear hx155_0); (try clear hx155_1); (try clear p154); (try clear p155); (try clear q154); (try clear q155)
  obtain ⟨kq, x21_2, rfl, HA, HJ2, HO_0, HK, HB⟩ := hcut
  cases kq with
  | zero => exact absurd HA.out (by simp [spec_l15Up.j0])
  | succ kj2 =>
   have H := HA.out
   clear HA
   simp only [spec_l15Up.j0] at H
   by_cases c15 : x21_2 = true
   ·subst c15
    rw [if_pos rfl] at H
    simp only [Option.some.injEq, Prod.mk.injEq] at H
    obtain ⟨rfl, rfl⟩ := H
    go_wp2
    go_ret2
    exact ⟨_, by first | rfl | (simp [errW_none, errW_some] <;> rfl) | (simp [*, errW_none, errW_some] <;> rfl), by (with_reducible repeat (first | apply Kd.R_alloc | apply Kd.R_drewN | apply Kd.R_drew)); exact HO_0.out, by repeat (first | (with_reducible first | exact HB.out | apply below_alloc | apply pw_below_drewN | apply below_drew1) | exact HB.out), by repeat (first | (with_reducible first | exact HK.out | apply Kept.alloc | apply Kept.drewN | apply Kept.drew) | exact HK.out)⟩
   ·replace c15 := Bool.eq_false_iff.mpr c15
    subst c15
    rw [if_neg (show ¬ (false = true) by decide)] at H
    replace H := Option.bind_eq_some_iff.mp H
    obtain ⟨t157, A160, H⟩ := H
    have A16 := Aside0.mk A160
    clear A160
    replace H := Option.bind_eq_some_iff.mp H
    obtain ⟨⟨t160, t163⟩, A170, H⟩ := H
    have A17 := Aside0.mk A170
    clear A170
    simp only [Option.some.injEq, Prod.mk.injEq] at H
    obtain ⟨rfl, rfl⟩ := H
    obtain ⟨Ao18, co18, eo18⟩ := Kd.R_slice HO_0.out
    subst eo18
    go_wp2_with (first | ((with_reducible refine gc_ 153 rfl ?_); refine gl_ 29 Try.func153 #[.slice Ao18 l0.length co18, .int .i64 a1, .int .i64 (wrap64 (Int.tdiv (wrap64 (a1 - 1)) 2))] ?_; (with_reducible refine (spec_l15Swap.calls _ _ l0 a1 (wrap64 (Int.tdiv (wrap64 (a1 - 1)) 2)) t157 _ ?side1 ?side2 A16.out).mono ?_); (case side1 => exact cr_ HO_0); (case side2 => exact (Kd.R_reads' HO_0.out).2.1); rintro e w19 ⟨v158, rfl, ho0, hb⟩; refine ⟨_, rfl, ?_⟩; have HO159 := Aside0.mk (Kd.R_lower (Kd.R_new' (Kd.R_newM (M := fun k_ => (P0_ k_ ∨ w.heap.size ≤ k_)) ho0 (by first | exact HK.out.1 | exact (show Kept w _ (fun k_ => P0_ k_) from by repeat (first | (with_reducible first | exact HK.out | apply Kept.alloc | apply Kept.drewN | apply Kept.drew) | exact HK.out)).1) (fun k_ h_ => .inr h_)) (Kd.R_lt (kr_ HO_0))) (below_size (be_ HB))); replace HO_0 := Aside0.mk (Kd.R_elder' (kr_ HO_0) (Kd.R_base ho0) hb); replace HK := Aside0.mk (Kept.below (S := (fun k_ => P0_ k_)) (by repeat (first | (with_reducible first | exact HK.out | apply Kept.alloc | apply Kept.drewN | apply Kept.drew) | exact HK.out)) hb); replace HB := Aside0.mk (below_step (be_ HB) hb); (try clear hb); (try clear hb2); (try clear hk); (try clear hi); (try clear ho0); obtain ⟨Ao20, co20, eo20⟩ := Kd.R_slice HO159.out; subst eo20) | ((with_reducible refine gc_ 131 rfl ?_); refine gl_ 33 Try.func131 #[.slice Ao20 t157.length co20, .int .i64 (wrap64 (Int.tdiv (wrap64 (a1 - 1)) 2))] ?_; (with_reducible refine (ih kj2 (by have := HJ2.out; omega) (fun k_ => some k_ = (.slice Ao20 t157.length co20 : Value).ownBlock) (.slice Ao20 t157.length co20) t157 (wrap64 (Int.tdiv (wrap64 (a1 - 1)) 2)) t160 t163 w0 _ ?side1 ?side2 A17.out).mono ?_); (case side1 => exact be_ HB); (case side2 => exact Kd.R_tight rfl HO159.out); rintro e w21 ⟨v161, rfl, ho0, hb, hkp⟩; refine ⟨_, rfl, ?_⟩; have HO162 := Aside0.mk (Kd.R_mono (ok' := fun k_ => (P0_ k_ ∨ w.heap.size ≤ k_) ∧ some k_ ≠ (.slice Ao18 l0.length co18 : Value).ownBlock) ho0 (fun k_ hk_ => by first | exact ⟨Or.elim hk_ (fun hs_ => (HO159.out.1 k_ (hs_).symm).1.1) (fun hn_ => (.inr (Nat.le_trans (by first | exact HK.out.1 | exact (show Kept w _ (fun k_ => P0_ k_) from by repeat (first | (with_reducible first | exact HK.out | apply Kept.alloc | apply Kept.drewN | apply Kept.drew) | exact HK.out)).1) hn_))), Or.elim hk_ (fun hs_ => fun e_ => (((HO_0.out).1 k_ e_.symm).2) hs_) (fun hn_ => (Kd.fresh' (Kd.R_lt (kr_ HO_0)) k_ hn_))⟩ | grind)); replace HO_0 := Aside0.mk (Kd.R_mono (ok' := fun k_ => (P0_ k_ ∨ w.heap.size ≤ k_) ∧ some k_ ≠ (v161 : Value).ownBlock) (Kd.R_keptB (HO_0.out) hkp (fun k_ hk_ hs_ => by first | exact (hk_.2) hs_ | grind)) (fun k_ hk_ => by first | exact ⟨hk_.1.1, fun e_ => Or.elim (ho0.1 k_ e_.symm) (fun hs_ => hk_.2.1 hs_) (fun hn_ => Nat.not_le.2 hk_.2.2 hn_)⟩ | grind)); replace HK := Aside0.mk (Kept.then_ (S := (fun k_ => P0_ k_)) (by repeat (first | (with_reducible first | exact HK.out | apply Kept.alloc | apply Kept.drewN | apply Kept.drew) | exact HK.out)) hkp (fun k_ hs_ => (fun e_ => (HO159.out.1 k_ e_.symm).1.1) hs_)); replace HB := Aside0.mk (hb); clear HO159; (try clear hb); (try clear hkp); (try clear ho0)))
    go_ret2
    exact ⟨_, by first | rfl | (simp [errW_none, errW_some] <;> rfl) | (simp [*, errW_none, errW_some] <;> rfl), by (with_reducible repeat (first | apply Kd.R_alloc | apply Kd.R_drewN | apply Kd.R_drew)); exact Kd.R_mono HO162.out (fun _ hk => by first | exact hk.1 | grind), by repeat (first | (with_reducible first | exact HB.out | apply below_alloc | apply pw_below_drewN | apply below_drew1) | exact HB.out), by repeat (first | (with_reducible first | exact HK.out | apply Kept.alloc | apply Kept.drewN | apply Kept.drew) | exact HK.out)⟩

/-! ### spec_l15Down: function 132 -/
mutual
def spec_l15Down.l0 : Nat → List (S68) → Int → Int → Int → Option ((List (S68)))
  | 0, _, _, _, _ => none
  | k + 1, x0, x1, x5, x6 => if x6 ≤ (wrap64 ((wrap64 (2 * x1)) + 2)) then (spec_l15Down.j1 k x0 x1 x5 x6 (decide (x6 < (x0.length : Int)))) else (spec_l15Down.j1 k x0 x1 x5 x6 false)
def spec_l15Down.j1 : Nat → List (S68) → Int → Int → Int → Bool → Option ((List (S68)))
  | 0, _, _, _, _, _ => none
  | k + 1, x0, x1, x5, x6, x21 => if x21 = true then (if 0 ≤ x6 then (if x6 < (x0.length : Int) then (if 0 ≤ x5 then (if x5 < (x0.length : Int) then ((spec_Ahead.f ((rd_T68 x0 x6).f0) ((rd_T68 x0 x6).f1) ((rd_T68 x0 x5).f0) ((rd_T68 x0 x5).f1)).bind fun t166 => (if t166 = true then (spec_l15Down.l0 k x0 x1 x6 (wrap64 (x6 + 1))) else (spec_l15Down.l0 k x0 x1 x5 (wrap64 (x6 + 1))))) else (none)) else (none)) else (none)) else (none)) else (if x5 = x1 then (some x0) else ((spec_l15Swap.f x0 x1 x5).bind fun t167 => ((spec_l15Down.f k t167 x5).bind fun t170 => (some t170))))
def spec_l15Down.f : Nat → List (S68) → Int → Option ((List (S68)))
  | 0, _, _ => none
  | k + 1, l0, a1 => spec_l15Down.l0 k l0 a1 a1 (wrap64 ((wrap64 (2 * a1)) + 1))
end
theorem spec_l15Down.mono_l : ∀ k, (∀ y0 y1, LeO (spec_l15Down.f k y0 y1) (spec_l15Down.f (k + 1) y0 y1)) ∧ (∀ y0 y1 y2 y3, LeO (spec_l15Down.l0 k y0 y1 y2 y3) (spec_l15Down.l0 (k + 1) y0 y1 y2 y3)) ∧ (∀ y0 y1 y2 y3 y4, LeO (spec_l15Down.j1 k y0 y1 y2 y3 y4) (spec_l15Down.j1 (k + 1) y0 y1 y2 y3 y4))
 | 0 => ⟨fun _ _ r h => by simp [spec_l15Down.f] at h, fun _ _ _ _ r h => by simp [spec_l15Down.l0] at h, fun _ _ _ _ _ r h => by simp [spec_l15Down.j1] at h⟩
 | k + 1 => by
  obtain ⟨ih0, ih1, ih2⟩ := spec_l15Down.mono_l k
  refine ⟨?_, ?_, ?_⟩ <;> intros <;> (first | unfold spec_l15Down.f | unfold spec_l15Down.l0 | unfold spec_l15Down.j1) <;> repeat' (first | (with_reducible exact ih0 ..) | (with_reducible exact ih1 ..) | (with_reducible exact ih2 ..) | (with_reducible exact LeO.refl _) | (with_reducible exact LeO.none _) | (with_reducible refine LeO.ite ?_ ?_) | (with_reducible refine LeO.bind ?_ (fun _ => ?_)) | exact ih0 .. | exact ih1 .. | exact ih2 .. | exact LeO.none _ | refine LeO.ite ?_ ?_ | refine LeO.bind ?_ (fun _ => ?_))
theorem spec_l15Down.mono : ∀ a0 a1 k, LeO (spec_l15Down.f k a0 a1) (spec_l15Down.f (k + 1) a0 a1) := by
 intro a0 a1 k
 obtain ⟨ih0, ih1, ih2⟩ := spec_l15Down.mono_l k
 exact ih0 a0 a1
def spec_l15Down.T5 : Bool × List (List Nat × List Nat) := (true, [([], []), ([], []), ([0, 1], [0, 1]), ([2], [2]), ([], []), ([], []), ([4, 5], [4, 5]), ([6], [6]), ([3, 7], [3, 7])])
def spec_l15Down.B5 : List Nat := [0, 0, 3, 7, 0, 0, 48, 112, 255]
theorem spec_l15Down.tab5 : rtab .any (opsOf Try.f132 5) = spec_l15Down.T5 := by kernel_rfl
theorem spec_l15Down.bits5 : waitsOk spec_l15Down.T5.2 spec_l15Down.B5 = true := by kernel_rfl
set_option maxHeartbeats 8000000 in
set_option maxRecDepth 100000 in
theorem spec_l15Down.calls (k : Nat) : ∀ (P0_ : Nat → Prop) (u9000_ : Value) (l0 : List (S68)) (a1 : Int) (r : List (S68)) (w0 w : World) (hB : Below w0.heap.size w0 w) (ho0 : Kd.R k68 68 w w0.heap.size P0_ u9000_ l0) (h : spec_l15Down.f k l0 a1 = some r),
  Calls Try.prog 132 #[u9000_, .int .i64 a1] w fun e w' => ∃ v0_ : Value, e = .returned (v0_) ∧ Kd.R k68 68 w' w0.heap.size (fun k_ => (P0_ k_ ∨ w.heap.size ≤ k_)) v0_ r ∧ Below w0.heap.size w0 w' ∧ Kept w w' (fun k_ => P0_ k_) := by
 induction k using Nat.strongRecOn with
 | _ k ih =>
 intro P0_ u9000_ l0 a1 r w0 w hB ho0 h
 cases k with
 | zero => exact absurd h (by simp [spec_l15Down.f])
 | succ k =>
 simp only [spec_l15Down.f] at h
 have hu68 := Try.underlying68
 have HO0 := Aside0.mk (show Kd.R k68 68 w w0.heap.size (fun k_ => (P0_ k_ ∨ w.heap.size ≤ k_)) u9000_ l0 from Kd.R_mono ho0 (fun k_ hk => by first | exact (.inl hk) | grind))
 have HK := Aside0.mk (Kept.refl w (fun k_ => P0_ k_))
 have HW0 := Aside0.mk hB.size
 have HB := Aside0.mk hB; clear hB
 have H := h
 clear h
 unfold spec_l15Down.f at H
 have H' := Aside0.mk H
 clear H
 go_enter Try.func132, Try.ntmps132
 go_wp2
 go_loopg [5, 6] k (fun kq v5 v6 w' => ∃ (x5_1 : Int) (x6_1 : Int), v5 = .int .i64 x5_1 ∧ v6 = .int .i64 x6_1 ∧ Aside0 (spec_l15Down.l0 kq l0 a1 x5_1 x6_1 = some r) ∧ Aside0 (kq ≤ k) ∧ Aside0 (Kd.R k68 68 w' w0.heap.size (fun k_ => (P0_ k_ ∨ w.heap.size ≤ k_)) u9000_ l0) ∧ Aside0 (Kept w w' (fun k_ => P0_ k_)) ∧ Aside0 (Below w0.heap.size w0 w'))
 case atStart => exact ⟨(a1), (wrap64 ((wrap64 (2 * a1)) + 1)), (by first | rfl | (simp; done) | (simp [*]; done)), (by first | rfl | (simp; done) | (simp [*]; done)), H', ⟨Nat.le_refl _⟩, ⟨kr_ HO0⟩, ⟨by repeat (first | (with_reducible first | exact HK.out | apply Kept.alloc | apply Kept.drewN | apply Kept.drew) | exact HK.out)⟩, ⟨be_ HB⟩⟩
 case round =>
  clear H'
  (try clear c1); (try clear p2)
  obtain ⟨x5_1, x6_1, rfl, rfl, HA, HK1, HO_0, HK, HB⟩ := hrel
  cases gk with
  | zero => exact absurd HA.out (by simp [spec_l15Down.l0])
  | succ k1 =>
   have H := HA.out
   clear HA
   simp only [spec_l15Down.l0] at H
   have HC3 := Aside0.mk H
   clear H
   go_upto_region 3 with (fail)
   go_cut [21] (fun v21 wc => ∃ (kq : Nat) (x21_2 : Bool), v21 = .bool x21_2 ∧ Aside0 (spec_l15Down.j1 kq l0 a1 x5_1 x6_1 x21_2 = some r) ∧ Aside0 (kq ≤ k1) ∧ Aside0 (Kd.R k68 68 wc w0.heap.size (fun k_ => (P0_ k_ ∨ w.heap.size ≤ k_)) u9000_ l0) ∧ Aside0 (Kept w wc (fun k_ => P0_ k_)) ∧ Aside0 (Below w0.heap.size w0 wc))
   case first =>
    have H := HC3.out
    clear HC3
    by_cases c4 : x6_1 ≤ (wrap64 ((wrap64 (2 * a1)) + 2))
    ·rw [if_pos c4] at H
     have c4b0 : decide (x6_1 ≤ (wrap64 ((wrap64 (2 * a1)) + 2))) = true := decide_eq_true c4
     clear c4
     (first | rw [c4b0] | (simp only [i64_w, i32_w]; rw [c4b0]) | skip)
     have H' := Aside0.mk H
     clear H
     obtain ⟨Ao5, co5, eo5⟩ := Kd.R_slice HO_0.out
     subst eo5
     go_wp2
     go_meet
     case rel => exact ⟨_, (decide (x6_1 < (l0.length : Int))), (by first | rfl | (simp; done) | (simp [*]; done)), H', ⟨by have := HK1.out; first | omega | exact Nat.le_refl _⟩, ⟨kr_ HO_0⟩, ⟨by repeat (first | (with_reducible first | exact HK.out | apply Kept.alloc | apply Kept.drewN | apply Kept.drew) | exact HK.out)⟩, ⟨be_ HB⟩⟩
    ·rw [if_neg c4] at H
     have c4b0 : decide (x6_1 ≤ (wrap64 ((wrap64 (2 * a1)) + 2))) = false := decide_eq_false c4
     clear c4
     (first | rw [c4b0] | (simp only [i64_w, i32_w]; rw [c4b0]) | skip)
     have H' := Aside0.mk H
     clear H
     go_wp2
     go_meet
     case rel => exact ⟨_, (false), (by first | rfl | (simp; done) | (simp [*]; done)), H', ⟨by have := HK1.out; first | omega | exact Nat.le_refl _⟩, ⟨kr_ HO_0⟩, ⟨by repeat (first | (with_reducible first | exact HK.out | apply Kept.alloc | apply Kept.drewN | apply Kept.drew) | exact HK.out)⟩, ⟨be_ HB⟩⟩
   case rest =>
    clear HC3; (try clear c1); (try clear p2 p2); (try clear c4); (try clear c4b0)
    obtain ⟨kq, x21_2, rfl, HA, HJ2, HO_0, HK, HB⟩ := hcut
    cases kq with
    | zero => exact absurd HA.out (by simp [spec_l15Down.j1])
    | succ kj2 =>
     have H := HA.out
     clear HA
     simp only [spec_l15Down.j1] at H
     by_cases c6 : x21_2 = true
     ·subst c6
      rw [if_pos rfl] at H
      by_cases c7 : 0 ≤ x6_1
      ·rw [if_pos c7] at H
       have c7b0 : decide (0 ≤ x6_1) = true := decide_eq_true c7
       clear c7
       by_cases c8 : x6_1 < (l0.length : Int)
       ·rw [if_pos c8] at H
        have c8b0 : decide (x6_1 < (l0.length : Int)) = true := decide_eq_true c8
        clear c8
        by_cases c9 : 0 ≤ x5_1
        ·rw [if_pos c9] at H
         have c9b0 : decide (0 ≤ x5_1) = true := decide_eq_true c9
         clear c9
         by_cases c10 : x5_1 < (l0.length : Int)
         ·rw [if_pos c10] at H
          have c10b0 : decide (x5_1 < (l0.length : Int)) = true := decide_eq_true c10
          clear c10
          replace H := Option.bind_eq_some_iff.mp H
          obtain ⟨t166, A110, H⟩ := H
          have A11 := Aside0.mk A110
          clear A110
          by_cases c12 : t166 = true
          ·subst c12
           rw [if_pos rfl] at H
           have H' := Aside0.mk H
           clear H
           try go_wp2
           have n0_ := Aside0.mk (Kd.R_drew HO_0.out); have n1_ := Aside0.mk (Kept.drew HK.out); have n2_ := Aside0.mk (below_drew1 HB.out); clear HO_0 HK HB; have HO_0 := n0_
           have HK := n1_
           have HB := n2_; clear n0_ n1_ n2_
           obtain ⟨Ao14, co14, eo14⟩ := Kd.R_slice HO_0.out
           (first | subst eo14 | (injection eo14 with f1_ f2_ f3_; have f4_ := f1_.symm; have f5_ := f3_.symm; clear f1_ f2_ f3_; subst f4_; subst f5_))
           have p164 : 0 ≤ (x6_1 : Int) := od_
           have q164 : x6_1 < (l0.length : Int) := od_
           obtain ⟨ad164, e164, hx164_0, hx164_1⟩ := at_T68 (Kd.R_reads' HO_0.out).2.2 x6_1 p164 q164
           cases e164
           replace p164 := eq_true p164
           replace q164 := eq_true q164
           have p165 : 0 ≤ (x5_1 : Int) := od_
           have q165 : x5_1 < (l0.length : Int) := od_
           obtain ⟨ad165, e165, hx165_0, hx165_1⟩ := at_T68 (Kd.R_reads' HO_0.out).2.2 x5_1 p165 q165
           obtain rfl : ad164 = ad165 := (by injection e165)
           replace p165 := eq_true p165
           replace q165 := eq_true q165
           refine start_ (n := 9) (S := fun w' => w'.cell? (ad164.add ((x6_1).toNat * 2)) = some (.int .i64 ((rd_T68 l0 x6_1).f0)) ∧ w'.cell? ⟨(ad164.add ((x6_1).toNat * 2)).block, (ad164.add ((x6_1).toNat * 2)).off + 1, none⟩ = some (.int .i64 ((rd_T68 l0 x6_1).f1)) ∧ w'.cell? (ad164.add ((x5_1).toNat * 2)) = some (.int .i64 ((rd_T68 l0 x5_1).f0)) ∧ w'.cell? ⟨(ad164.add ((x5_1).toNat * 2)).block, (ad164.add ((x5_1).toNat * 2)).off + 1, none⟩ = some (.int .i64 ((rd_T68 l0 x5_1).f1))) (ds := []) (bs 9 0) (by kernel_rfl) rfl rfl ⟨hx164_0, hx164_1, hx165_0, hx165_1⟩ (fun hHeld => ?_); refine with_tabW spec_l15Down.tab5 spec_l15Down.bits5 (fun HT_ HW_ => ?_)
           generalize wc.drew = w13 at HO_0 HK HB hx164_0 hx164_1 hx165_0 hx165_1 hHeld ⊢
           iterate 3 (refine psn_ HT_ ?_)
           refine ps_ 4 28 (bm 9 23) HT_ ?_
           refine ps_ 5 29 (bm 9 55) HT_ ?_
           refine ps_ 6 30 (bm 9 119) HT_ ?_
           refine tk_ 3 27 (bs 9 7) HT_ HW_ hHeld ?_
           refine tkn_ HT_ HW_ hHeld ?_
           refine on_ 8 (some 32) (bs 9 9) HT_ (fun K hK => ?_)
           refine gs_ Try.func46 #[.agg #[.int .i64 ((rd_T68 l0 x6_1).f0), .int .i64 ((rd_T68 l0 x6_1).f1)], .agg #[.int .i64 ((rd_T68 l0 x5_1).f0), .int .i64 ((rd_T68 l0 x5_1).f1)]] ?_
           with_reducible refine (spec_Ahead.calls ((rd_T68 l0 x6_1).f0) ((rd_T68 l0 x6_1).f1) ((rd_T68 l0 x5_1).f0) ((rd_T68 l0 x5_1).f1) true _ A11.out).mono ?_
           rintro e w15 ⟨rfl, hb⟩
           have HS0_ := hc_ hb hHeld.1
           have HS1_ := hc_ hb hHeld.2.1
           have HS2_ := hc_ hb hHeld.2.2.1
           have HS3_ := hc_ hb hHeld.2.2.2
           refine ⟨_, rfl, ?_⟩
           have n0_ := Aside0.mk (Kd.R_below (kr_ HO_0) hb)
           have n1_ := Aside0.mk (Kept.below (S := (fun k_ => P0_ k_)) (by repeat (first | (with_reducible first | exact HK.out | apply Kept.alloc | apply Kept.drewN | apply Kept.drew) | exact HK.out)) hb)
           have n2_ := Aside0.mk (below_step (be_ HB) hb); clear HO_0 HK HB; have HO_0 := n0_
           have HK := n1_
           have HB := n2_; clear n0_ n1_ n2_; (try clear hb); (try clear hb2); (try clear hk); (try clear hi)
           refine hK.out _ _ ⟨HS0_, HS1_, HS2_, HS3_⟩ (fun hHeld => ?_)
           clear hK K
           refine norm_ (a' := ?_) ?_ ?_
           rotate_left
           ·show Act.put _ (some 32) _ = _
            simp only [Act.put, ls0_, ls1_, ls2_, i64_w, i32_w]
            rfl
           refine done_ (done_of HT_.out (by kernel_rfl)) ?_
           try go_wp2
           go_roundg kj2
           case measure => have := HK1.out; have := HJ2.out; omega
           case rel => exact ⟨(x6_1), (wrap64 (x6_1 + 1)), (by first | rfl | (simp; done) | (simp [*]; done)), (by first | rfl | (simp; done) | (simp [*]; done)), H', ⟨by have := HK1.out; have := HJ2.out; omega⟩, ⟨kr_ HO_0⟩, ⟨by repeat (first | (with_reducible first | exact HK.out | apply Kept.alloc | apply Kept.drewN | apply Kept.drew) | exact HK.out)⟩, ⟨be_ HB⟩⟩
          ·replace c12 := Bool.eq_false_iff.mpr c12
           subst c12
           rw [if_neg (show ¬ (false = true) by decide)] at H
           have H' := Aside0.mk H
           clear H
           try go_wp2
           have n0_ := Aside0.mk (Kd.R_drew HO_0.out); have n1_ := Aside0.mk (Kept.drew HK.out); have n2_ := Aside0.mk (below_drew1 HB.out); clear HO_0 HK HB; have HO_0 := n0_
           have HK := n1_
           have HB := n2_; clear n0_ n1_ n2_
           obtain ⟨Ao17, co17, eo17⟩ := Kd.R_slice HO_0.out
           (first | subst eo17 | (injection eo17 with f1_ f2_ f3_; have f4_ := f1_.symm; have f5_ := f3_.symm; clear f1_ f2_ f3_; subst f4_; subst f5_))
           have p164 : 0 ≤ (x6_1 : Int) := od_
           have q164 : x6_1 < (l0.length : Int) := od_
           obtain ⟨ad164, e164, hx164_0, hx164_1⟩ := at_T68 (Kd.R_reads' HO_0.out).2.2 x6_1 p164 q164
           cases e164
           replace p164 := eq_true p164
           replace q164 := eq_true q164
           have p165 : 0 ≤ (x5_1 : Int) := od_
           have q165 : x5_1 < (l0.length : Int) := od_
           obtain ⟨ad165, e165, hx165_0, hx165_1⟩ := at_T68 (Kd.R_reads' HO_0.out).2.2 x5_1 p165 q165
           obtain rfl : ad164 = ad165 := (by injection e165)
           replace p165 := eq_true p165
           replace q165 := eq_true q165
           refine start_ (n := 9) (S := fun w' => w'.cell? (ad164.add ((x6_1).toNat * 2)) = some (.int .i64 ((rd_T68 l0 x6_1).f0)) ∧ w'.cell? ⟨(ad164.add ((x6_1).toNat * 2)).block, (ad164.add ((x6_1).toNat * 2)).off + 1, none⟩ = some (.int .i64 ((rd_T68 l0 x6_1).f1)) ∧ w'.cell? (ad164.add ((x5_1).toNat * 2)) = some (.int .i64 ((rd_T68 l0 x5_1).f0)) ∧ w'.cell? ⟨(ad164.add ((x5_1).toNat * 2)).block, (ad164.add ((x5_1).toNat * 2)).off + 1, none⟩ = some (.int .i64 ((rd_T68 l0 x5_1).f1))) (ds := []) (bs 9 0) (by kernel_rfl) rfl rfl ⟨hx164_0, hx164_1, hx165_0, hx165_1⟩ (fun hHeld => ?_); refine with_tabW spec_l15Down.tab5 spec_l15Down.bits5 (fun HT_ HW_ => ?_)
           generalize wc.drew = w16 at HO_0 HK HB hx164_0 hx164_1 hx165_0 hx165_1 hHeld ⊢
           iterate 3 (refine psn_ HT_ ?_)
           refine ps_ 4 28 (bm 9 23) HT_ ?_
           refine ps_ 5 29 (bm 9 55) HT_ ?_
           refine ps_ 6 30 (bm 9 119) HT_ ?_
           refine tk_ 3 27 (bs 9 7) HT_ HW_ hHeld ?_
           refine tkn_ HT_ HW_ hHeld ?_
           refine on_ 8 (some 32) (bs 9 9) HT_ (fun K hK => ?_)
           refine gs_ Try.func46 #[.agg #[.int .i64 ((rd_T68 l0 x6_1).f0), .int .i64 ((rd_T68 l0 x6_1).f1)], .agg #[.int .i64 ((rd_T68 l0 x5_1).f0), .int .i64 ((rd_T68 l0 x5_1).f1)]] ?_
           with_reducible refine (spec_Ahead.calls ((rd_T68 l0 x6_1).f0) ((rd_T68 l0 x6_1).f1) ((rd_T68 l0 x5_1).f0) ((rd_T68 l0 x5_1).f1) false _ A11.out).mono ?_
           rintro e w18 ⟨rfl, hb⟩
           have HS0_ := hc_ hb hHeld.1
           have HS1_ := hc_ hb hHeld.2.1
           have HS2_ := hc_ hb hHeld.2.2.1
           have HS3_ := hc_ hb hHeld.2.2.2
           refine ⟨_, rfl, ?_⟩
           have n0_ := Aside0.mk (Kd.R_below (kr_ HO_0) hb)
           have n1_ := Aside0.mk (Kept.below (S := (fun k_ => P0_ k_)) (by repeat (first | (with_reducible first | exact HK.out | apply Kept.alloc | apply Kept.drewN | apply Kept.drew) | exact HK.out)) hb)
           have n2_ := Aside0.mk (below_step (be_ HB) hb); clear HO_0 HK HB; have HO_0 := n0_
           have HK := n1_
           have HB := n2_; clear n0_ n1_ n2_; (try clear hb); (try clear hb2); (try clear hk); (try clear hi)
           refine hK.out _ _ ⟨HS0_, HS1_, HS2_, HS3_⟩ (fun hHeld => ?_)
           clear hK K
           refine norm_ (a' := ?_) ?_ ?_
           rotate_left
           ·show Act.put _ (some 32) _ = _
            simp only [Act.put, ls0_, ls1_, ls2_, i64_w, i32_w]
            rfl
           refine done_ (done_of HT_.out (by kernel_rfl)) ?_
           try go_wp2
           go_roundg kj2
           case measure => have := HK1.out; have := HJ2.out; omega
           case rel => exact ⟨(x5_1), (wrap64 (x6_1 + 1)), (by first | rfl | (simp; done) | (simp [*]; done)), (by first | rfl | (simp; done) | (simp [*]; done)), H', ⟨by have := HK1.out; have := HJ2.out; omega⟩, ⟨kr_ HO_0⟩, ⟨by repeat (first | (with_reducible first | exact HK.out | apply Kept.alloc | apply Kept.drewN | apply Kept.drew) | exact HK.out)⟩, ⟨be_ HB⟩⟩
         ·rw [if_neg c10] at H
          exact absurd H (by simp)
        ·rw [if_neg c9] at H
         exact absurd H (by simp)
       ·rw [if_neg c8] at H
        exact absurd H (by simp)
      ·rw [if_neg c7] at H
       exact absurd H (by simp)
     ·replace c6 := Bool.eq_false_iff.mpr c6
      subst c6
      rw [if_neg (show ¬ (false = true) by decide)] at H
      by_cases c19 : x5_1 = a1
      ·rw [if_pos c19] at H
       have c19b0 : (x5_1 == a1) = true := beq_iff_eq.mpr c19
       have c19b1 : (x5_1 != a1) = false := bne_eq_false_iff_eq.mpr c19
       clear c19
       obtain rfl := Option.some.inj H
       go_wp2
       go_ret
       exact ⟨_, by first | rfl | (simp [errW_none, errW_some] <;> rfl) | (simp [*, errW_none, errW_some] <;> rfl), by (with_reducible repeat (first | apply Kd.R_alloc | apply Kd.R_drewN | apply Kd.R_drew)); exact HO_0.out, by repeat (first | (with_reducible first | exact HB.out | apply below_alloc | apply pw_below_drewN | apply below_drew1) | exact HB.out), by repeat (first | (with_reducible first | exact HK.out | apply Kept.alloc | apply Kept.drewN | apply Kept.drew) | exact HK.out)⟩
      ·rw [if_neg c19] at H
       have c19b0 : (x5_1 == a1) = false := beq_eq_false_iff_ne.mpr c19
       have c19b1 : (x5_1 != a1) = true := bne_iff_ne.mpr c19
       replace H := Option.bind_eq_some_iff.mp H
       obtain ⟨t167, A200, H⟩ := H
       have A20 := Aside0.mk A200
       clear A200
       replace H := Option.bind_eq_some_iff.mp H
       obtain ⟨t170, A210, H⟩ := H
       have A21 := Aside0.mk A210
       clear A210
       obtain rfl := Option.some.inj H
       obtain ⟨Ao22, co22, eo22⟩ := Kd.R_slice HO_0.out
       subst eo22
       go_wp2_with (first | ((with_reducible refine gc_ 153 rfl ?_); refine gl_ 41 Try.func153 #[.slice Ao22 l0.length co22, .int .i64 a1, .int .i64 x5_1] ?_; (with_reducible refine (spec_l15Swap.calls _ _ l0 a1 x5_1 t167 _ ?side1 ?side2 A20.out).mono ?_); (case side1 => exact cr_ HO_0); (case side2 => exact (Kd.R_reads' HO_0.out).2.1); rintro e w23 ⟨v168, rfl, ho0, hb⟩; refine ⟨_, rfl, ?_⟩; have HO169 := Aside0.mk (Kd.R_lower (Kd.R_new' (Kd.R_newM (M := fun k_ => (P0_ k_ ∨ w.heap.size ≤ k_)) ho0 (by first | exact HK.out.1 | exact (show Kept w _ (fun k_ => P0_ k_) from by repeat (first | (with_reducible first | exact HK.out | apply Kept.alloc | apply Kept.drewN | apply Kept.drew) | exact HK.out)).1) (fun k_ h_ => .inr h_)) (Kd.R_lt (kr_ HO_0))) (below_size (be_ HB))); replace HO_0 := Aside0.mk (Kd.R_elder' (kr_ HO_0) (Kd.R_base ho0) hb); replace HK := Aside0.mk (Kept.below (S := (fun k_ => P0_ k_)) (by repeat (first | (with_reducible first | exact HK.out | apply Kept.alloc | apply Kept.drewN | apply Kept.drew) | exact HK.out)) hb); replace HB := Aside0.mk (below_step (be_ HB) hb); (try clear hb); (try clear hb2); (try clear hk); (try clear hi); (try clear ho0); obtain ⟨Ao24, co24, eo24⟩ := Kd.R_slice HO169.out; subst eo24) | ((with_reducible refine gc_ 132 rfl ?_); refine gl_ 43 Try.func132 #[.slice Ao24 t167.length co24, .int .i64 x5_1] ?_; (with_reducible refine (ih kj2 (by have := HK1.out; have := HJ2.out; omega) (fun k_ => some k_ = (.slice Ao24 t167.length co24 : Value).ownBlock) (.slice Ao24 t167.length co24) t167 x5_1 t170 w0 _ ?side1 ?side2 A21.out).mono ?_); (case side1 => exact be_ HB); (case side2 => exact Kd.R_tight rfl HO169.out); rintro e w25 ⟨v171, rfl, ho0, hb, hkp⟩; refine ⟨_, rfl, ?_⟩; have HO172 := Aside0.mk (Kd.R_mono (ok' := fun k_ => (P0_ k_ ∨ w.heap.size ≤ k_) ∧ some k_ ≠ (.slice Ao22 l0.length co22 : Value).ownBlock) ho0 (fun k_ hk_ => by first | exact ⟨Or.elim hk_ (fun hs_ => (HO169.out.1 k_ (hs_).symm).1.1) (fun hn_ => (.inr (Nat.le_trans (by first | exact HK.out.1 | exact (show Kept w _ (fun k_ => P0_ k_) from by repeat (first | (with_reducible first | exact HK.out | apply Kept.alloc | apply Kept.drewN | apply Kept.drew) | exact HK.out)).1) hn_))), Or.elim hk_ (fun hs_ => fun e_ => (((HO_0.out).1 k_ e_.symm).2) hs_) (fun hn_ => (Kd.fresh' (Kd.R_lt (kr_ HO_0)) k_ hn_))⟩ | grind)); replace HO_0 := Aside0.mk (Kd.R_mono (ok' := fun k_ => (P0_ k_ ∨ w.heap.size ≤ k_) ∧ some k_ ≠ (v171 : Value).ownBlock) (Kd.R_keptB (HO_0.out) hkp (fun k_ hk_ hs_ => by first | exact (hk_.2) hs_ | grind)) (fun k_ hk_ => by first | exact ⟨hk_.1.1, fun e_ => Or.elim (ho0.1 k_ e_.symm) (fun hs_ => hk_.2.1 hs_) (fun hn_ => Nat.not_le.2 hk_.2.2 hn_)⟩ | grind)); replace HK := Aside0.mk (Kept.then_ (S := (fun k_ => P0_ k_)) (by repeat (first | (with_reducible first | exact HK.out | apply Kept.alloc | apply Kept.drewN | apply Kept.drew) | exact HK.out)) hkp (fun k_ hs_ => (fun e_ => (HO169.out.1 k_ e_.symm).1.1) hs_)); replace HB := Aside0.mk (hb); clear HO169; (try clear hb); (try clear hkp); (try clear ho0)))
       go_ret
       exact ⟨_, by first | rfl | (simp [errW_none, errW_some] <;> rfl) | (simp [*, errW_none, errW_some] <;> rfl), by (with_reducible repeat (first | apply Kd.R_alloc | apply Kd.R_drewN | apply Kd.R_drew)); exact Kd.R_mono HO172.out (fun _ hk => by first | exact hk.1 | grind), by repeat (first | (with_reducible first | exact HB.out | apply below_alloc | apply pw_below_drewN | apply below_drew1) | exact HB.out), by repeat (first | (with_reducible first | exact HK.out | apply Kept.alloc | apply Kept.drewN | apply Kept.drew) | exact HK.out)⟩

/-! ### spec_l15Out: function 94 -/
def spec_l15Out.f (k : Nat) (l0 : List (S68)) (a1 : Int) : Option ((List (S68))) := (some (([] : List (S68)) : List (S68))).bind fun y173 => (if 0 ≤ (wrap64 ((l0.length : Int) - 1)) then (if (wrap64 ((l0.length : Int) - 1)) ≤ (l0.length : Int) then ((some (l0.take ((wrap64 ((l0.length : Int) - 1)) : Int).toNat : List (S68))).bind fun y176 => (if y173.length + y176.length < 8796093022208 then ((some (y173 ++ y176 : List (S68))).bind fun y180 => (if a1 = (wrap64 ((l0.length : Int) - 1)) then (some y180) else (if (wrap64 ((l0.length : Int) - 1)) < (l0.length : Int) then (if 0 ≤ a1 then (if a1 < (y180.length : Int) then ((spec_l15Up.f k (y180.set (a1 : Int).toNat (⟨(rd_T68 l0 (wrap64 ((l0.length : Int) - 1))).f0, (rd_T68 l0 (wrap64 ((l0.length : Int) - 1))).f1⟩ : S68)) a1).bind fun bt185 => ((spec_l15Down.f k bt185.1 bt185.2).bind fun t189 => (some t189))) else (none)) else (none)) else (none)))) else (none))) else (none)) else (none))
theorem spec_l15Out.mono : ∀ a0 a1 k, LeO (spec_l15Out.f k a0 a1) (spec_l15Out.f (k + 1) a0 a1) := by
 intro a0 a1 k
 unfold spec_l15Out.f
 repeat' (first | (with_reducible exact spec_l15Down.mono _ _ _) | (with_reducible exact spec_l15Up.mono _ _ _) | (with_reducible exact LeO.refl _) | (with_reducible exact LeO.none _) | (with_reducible refine LeO.ite ?_ ?_) | (with_reducible refine LeO.bind ?_ (fun _ => ?_)) | exact spec_l15Down.mono _ _ _ | exact spec_l15Up.mono _ _ _ | exact LeO.none _ | refine LeO.ite ?_ ?_ | refine LeO.bind ?_ (fun _ => ?_))
set_option maxHeartbeats 8000000 in
set_option maxRecDepth 100000 in
theorem spec_l15Out.calls (k : Nat) (A0 : Option Addr) (c0 : Nat) (l0 : List (S68)) (a1 : Int) (r : List (S68)) (w : World) (hr0 : Kd.C k68 w A0 l0.length l0) (hc0 : l0.length ≤ c0) (h : spec_l15Out.f k l0 a1 = some r) :
  Calls Try.prog 94 #[.slice A0 l0.length c0, .int .i64 a1] w fun e w' => ∃ v0_ : Value, e = .returned (v0_) ∧ Kd.R k68 68 w' w.heap.size (fun _ => True) v0_ r ∧ Below w.heap.size w w' := by
 have hu68 := Try.underlying68
 have HR0 := Aside0.mk hr0
 have HC0 := Aside0.mk hc0
 clear hr0 hc0; have HB := Aside0.mk (Below.refl w.heap.size w)
 have H := h
 clear h
 unfold spec_l15Out.f at H
 obtain ⟨y173, hy173⟩ : ∃ y_ : List (S68), y_ = (([] : List (S68))) := ⟨_, rfl⟩
 replace H : (if 0 ≤ (wrap64 ((l0.length : Int) - 1)) then (if (wrap64 ((l0.length : Int) - 1)) ≤ (l0.length : Int) then ((some (l0.take ((wrap64 ((l0.length : Int) - 1)) : Int).toNat : List (S68))).bind fun y176 => (if y173.length + y176.length < 8796093022208 then ((some (y173 ++ y176 : List (S68))).bind fun y180 => (if a1 = (wrap64 ((l0.length : Int) - 1)) then (some y180) else (if (wrap64 ((l0.length : Int) - 1)) < (l0.length : Int) then (if 0 ≤ a1 then (if a1 < (y180.length : Int) then ((spec_l15Up.f k (y180.set (a1 : Int).toNat (⟨(rd_T68 l0 (wrap64 ((l0.length : Int) - 1))).f0, (rd_T68 l0 (wrap64 ((l0.length : Int) - 1))).f1⟩ : S68)) a1).bind fun bt185 => ((spec_l15Down.f k bt185.1 bt185.2).bind fun t189 => (some t189))) else (none)) else (none)) else (none)))) else (none))) else (none)) else (none)) = some r := by first | (rw [hy173]; with_reducible exact H) | (have H2_ := (Option.bind_some _ _).symm.trans H; rw [hy173]; with_reducible exact H2_) | (have H2_ := (Option.bind_some _ _).symm.trans H; with_reducible exact H2_) | with_reducible exact H | (rw [hy173]; exact H) | exact H
 have Ny173 := Aside0.mk hy173
 clear hy173
 obtain ⟨ji3, hji3⟩ : ∃ j_ : Int, (wrap64 ((l0.length : Int) - 1)) = j_ := ⟨_, rfl⟩
 replace H : (if 0 ≤ (ji3) then (if (ji3) ≤ (l0.length : Int) then ((some (l0.take ((ji3) : Int).toNat : List (S68))).bind fun y176 => (if y173.length + y176.length < 8796093022208 then ((some (y173 ++ y176 : List (S68))).bind fun y180 => (if a1 = (ji3) then (some y180) else (if (ji3) < (l0.length : Int) then (if 0 ≤ a1 then (if a1 < (y180.length : Int) then ((spec_l15Up.f k (y180.set (a1 : Int).toNat (⟨(rd_T68 l0 (ji3)).f0, (rd_T68 l0 (ji3)).f1⟩ : S68)) a1).bind fun bt185 => ((spec_l15Down.f k bt185.1 bt185.2).bind fun t189 => (some t189))) else (none)) else (none)) else (none)))) else (none))) else (none)) else (none)) = some r := by first | (rw [hji3] at H; exact H) | (simp only [hji3] at H ⊢; exact H)
 have hji3w : (IntKind.i64.wrap ((l0.length : Int) - 1)) = ji3 := (i64_w _).trans hji3
 by_cases c4 : 0 ≤ (ji3)
 ·rw [if_pos c4] at H
  have c4b0 := eq_true c4
  have c4b1 : decide (0 ≤ (ji3)) = true := decide_eq_true c4
  clear c4
  by_cases c5 : (ji3) ≤ (l0.length : Int)
  ·rw [if_pos c5] at H
   have c5b0 := eq_true c5
   have c5b1 : decide ((ji3) ≤ (l0.length : Int)) = true := decide_eq_true c5
   clear c5
   obtain ⟨y176, hy176⟩ : ∃ y_ : List (S68), y_ = (l0.take ((ji3) : Int).toNat) := ⟨_, rfl⟩
   replace H : (if y173.length + y176.length < 8796093022208 then ((some (y173 ++ y176 : List (S68))).bind fun y180 => (if a1 = (ji3) then (some y180) else (if (ji3) < (l0.length : Int) then (if 0 ≤ a1 then (if a1 < (y180.length : Int) then ((spec_l15Up.f k (y180.set (a1 : Int).toNat (⟨(rd_T68 l0 (ji3)).f0, (rd_T68 l0 (ji3)).f1⟩ : S68)) a1).bind fun bt185 => ((spec_l15Down.f k bt185.1 bt185.2).bind fun t189 => (some t189))) else (none)) else (none)) else (none)))) else (none)) = some r := by first | (rw [hy176]; with_reducible exact H) | (have H2_ := (Option.bind_some _ _).symm.trans H; rw [hy176]; with_reducible exact H2_) | (have H2_ := (Option.bind_some _ _).symm.trans H; with_reducible exact H2_) | with_reducible exact H | (rw [hy176]; exact H) | exact H
   have Ny176 := Aside0.mk hy176
   clear hy176
   by_cases c6 : y173.length + y176.length < 8796093022208
   ·rw [if_pos c6] at H
    have LMc6 := Aside0.mk c6
    clear c6
    obtain ⟨y180, hy180⟩ : ∃ y_ : List (S68), y_ = (y173 ++ y176) := ⟨_, rfl⟩
    replace H : (if a1 = (ji3) then (some y180) else (if (ji3) < (l0.length : Int) then (if 0 ≤ a1 then (if a1 < (y180.length : Int) then ((spec_l15Up.f k (y180.set (a1 : Int).toNat (⟨(rd_T68 l0 (ji3)).f0, (rd_T68 l0 (ji3)).f1⟩ : S68)) a1).bind fun bt185 => ((spec_l15Down.f k bt185.1 bt185.2).bind fun t189 => (some t189))) else (none)) else (none)) else (none))) = some r := by first | (rw [hy180]; with_reducible exact H) | (have H2_ := (Option.bind_some _ _).symm.trans H; rw [hy180]; with_reducible exact H2_) | (have H2_ := (Option.bind_some _ _).symm.trans H; with_reducible exact H2_) | with_reducible exact H | (rw [hy180]; exact H) | exact H
    have Ny180 := Aside0.mk hy180
    clear hy180
    by_cases c7 : a1 = (ji3)
    ·rw [if_pos c7] at H
     have c7b0 : (a1 == (ji3)) = true := beq_iff_eq.mpr c7
     have c7b1 : (a1 != (ji3)) = false := bne_eq_false_iff_eq.mpr c7
     clear c7
     obtain rfl := Option.some.inj H
     go_enter Try.func94, Try.ntmps94
     go_wp2_with (first | ((with_reducible refine gd_ 12 rfl ?_); refine Kd.R_lit k68 _ 68 ?hg (N := 12) ?hd (xs := ([] : List (S68))) (inner := []) (ok := fun _ => True) (okp := fun _ => True) ?hr ?hp (fun _ hk => by first | exact hk | grind) trivial (Below.refl _ _) (Nat.le_refl _) (by simp) ?_; (case hd => rfl); (case hg => rfl); (case hr => first | (go_simp; done) | (go_simp; rfl)); (case hp => exact (Reps.none _ _)); intro v174 w8 ho9 hb hg_ hnew_; clear hg_ hnew_; (first | rw [← Ny173.out] at ho9 | (simp only [Int.reduceToNat] at ho9; rw [← Ny173.out] at ho9)); have HO175 := Aside0.mk (Kd.R_lower ho9 (below_size (be_ HB))); replace HB := Aside0.mk (below_step (be_ HB) hb); clear hb ho9; have q10 : ((ji3) : Int) ≤ ((l0.length : Int) : Int) := od_; obtain ⟨i010, hi010, _, hsz10, _⟩ := info_parts info68; have hroom10 : l0.length ≤ c0 := HC0.out; have hC10 : Kd.C k68 _ A0 l0.length l0 := HR0.out; have hcut10 := cut_to (P := Try.prog) 26 68 .i64 Try.underlying26 hi010 A0 l0.length c0 (ji3) (od_) q10 hroom10; have hr10 := Kd.C_take (m := ((ji3) : Int).toNat) hC10 (by omega); have hy10 : y176.length = ((ji3) : Int).toNat := (by rw [Ny176.out, List.length_take]; omega); rw [← Ny176.out] at hr10; rw [← hy10] at hcut10; have HR179 := Aside0.mk hr10; have HC179 := Aside0.mk (show y176.length ≤ c0 from by omega); clear hr10 hC10 hroom10 hi010 hsz10; have KY10 := Aside0.mk hy10; clear hy10; replace q10 := eq_true q10) | ((with_reducible refine gate_builtin (b := .append) (xs := #[.tmp 12, .tmp 15]) rfl ?_); at_builtin; refine Kd.R_append_rows k68 (w0 := w) w.heap.size rfl (.tmp 12) (.tmp 15) 26 68 (.agg #[(.int .i64 0), (.int .i64 0)]) 16 rfl Try.underlying26 info68 rfl (by decide) (by omega) v174 y173 y176 _ _ _ (fun _ => True) (fun _ => False) rfl rfl ?aO ?aR (fun _ _ h => h) (fun _ h => h.elim) ?aF ?aB ?aS ?aL ?_; (case aR => repeat (first | exact (Kd.C_below HR179.out HB.out) | (with_reducible refine Kd.C_alloc ?_ _) | (with_reducible refine Kd.C_drewN ?_ _) | (with_reducible refine Kd.C_drew ?_))); (case aB => exact (be_ HB)); (case aF => exact (fun _ _ => trivial)); (case aO => exact (kr_ HO175)); (case aS => exact (below_size (be_ HB))); (case aL => have := LMc6.out; omega); intro v181 w11 ho hb hg hat; rw [← Ny180.out] at ho; replace HB := Aside0.mk (hb); have HO182 := Aside0.mk (ho); clear HO175 ho hb hg hat))
     go_ret
     exact ⟨_, by first | rfl | (simp [errW_none, errW_some] <;> rfl) | (simp only [← hji3]; first | rfl | (simp [errW_none, errW_some] <;> rfl)) | (simp [*, errW_none, errW_some] <;> rfl), by (with_reducible repeat (first | apply Kd.R_alloc | apply Kd.R_drewN | apply Kd.R_drew)); exact HO182.out, be_ HB⟩
    ·rw [if_neg c7] at H
     have c7b0 : (a1 == (ji3)) = false := beq_eq_false_iff_ne.mpr c7
     have c7b1 : (a1 != (ji3)) = true := bne_iff_ne.mpr c7
     by_cases c12 : (ji3) < (l0.length : Int)
     ·rw [if_pos c12] at H
      have c12b0 : decide ((ji3) < (l0.length : Int)) = true := decide_eq_true c12
      clear c12
      by_cases c13 : 0 ≤ a1
      ·rw [if_pos c13] at H
       have c13b0 : decide (0 ≤ a1) = true := decide_eq_true c13
       clear c13
       by_cases c14 : a1 < (y180.length : Int)
       ·rw [if_pos c14] at H
        have c14b0 : decide (a1 < (y180.length : Int)) = true := decide_eq_true c14
        clear c14
        obtain ⟨y184, hy184⟩ : ∃ y_ : List (S68), y_ = (y180.set (a1 : Int).toNat (⟨(rd_T68 l0 (ji3)).f0, (rd_T68 l0 (ji3)).f1⟩ : S68)) := ⟨_, rfl⟩
        replace H : ((spec_l15Up.f k y184 a1).bind fun bt185 => ((spec_l15Down.f k bt185.1 bt185.2).bind fun t189 => (some t189))) = some r := by first | (rw [hy184]; with_reducible exact H) | (have H2_ := (Option.bind_some _ _).symm.trans H; rw [hy184]; with_reducible exact H2_) | (have H2_ := (Option.bind_some _ _).symm.trans H; with_reducible exact H2_) | with_reducible exact H | (rw [hy184]; exact H) | exact H
        have Ny184 := Aside0.mk hy184
        clear hy184
        replace H := Option.bind_eq_some_iff.mp H
        obtain ⟨⟨t185, t188⟩, A160, H⟩ := H
        have A16 := Aside0.mk A160
        clear A160
        replace H := Option.bind_eq_some_iff.mp H
        obtain ⟨t189, A170, H⟩ := H
        have A17 := Aside0.mk A170
        clear A170
        obtain rfl := Option.some.inj H
        go_enter Try.func94, Try.ntmps94
        go_wp2_with (first | ((with_reducible refine gd_ 12 rfl ?_); refine Kd.R_lit k68 _ 68 ?hg (N := 12) ?hd (xs := ([] : List (S68))) (inner := []) (ok := fun _ => True) (okp := fun _ => True) ?hr ?hp (fun _ hk => by first | exact hk | grind) trivial (Below.refl _ _) (Nat.le_refl _) (by simp) ?_; (case hd => rfl); (case hg => rfl); (case hr => first | (go_simp; done) | (go_simp; rfl)); (case hp => exact (Reps.none _ _)); intro v174 w18 ho19 hb hg_ hnew_; clear hg_ hnew_; (first | rw [← Ny173.out] at ho19 | (simp only [Int.reduceToNat] at ho19; rw [← Ny173.out] at ho19)); have HO175 := Aside0.mk (Kd.R_lower ho19 (below_size (be_ HB))); replace HB := Aside0.mk (below_step (be_ HB) hb); clear hb ho19; have q20 : ((ji3) : Int) ≤ ((l0.length : Int) : Int) := od_; obtain ⟨i020, hi020, _, hsz20, _⟩ := info_parts info68; have hroom20 : l0.length ≤ c0 := HC0.out; have hC20 : Kd.C k68 _ A0 l0.length l0 := HR0.out; have hcut20 := cut_to (P := Try.prog) 26 68 .i64 Try.underlying26 hi020 A0 l0.length c0 (ji3) (od_) q20 hroom20; have hr20 := Kd.C_take (m := ((ji3) : Int).toNat) hC20 (by omega); have hy20 : y176.length = ((ji3) : Int).toNat := (by rw [Ny176.out, List.length_take]; omega); rw [← Ny176.out] at hr20; rw [← hy20] at hcut20; have HR179 := Aside0.mk hr20; have HC179 := Aside0.mk (show y176.length ≤ c0 from by omega); clear hr20 hC20 hroom20 hi020 hsz20; have KY20 := Aside0.mk hy20; clear hy20; replace q20 := eq_true q20) | ((with_reducible refine gate_builtin (b := .append) (xs := #[.tmp 12, .tmp 15]) rfl ?_); at_builtin; refine Kd.R_append_rows k68 (w0 := w) w.heap.size rfl (.tmp 12) (.tmp 15) 26 68 (.agg #[(.int .i64 0), (.int .i64 0)]) 16 rfl Try.underlying26 info68 rfl (by decide) (by omega) v174 y173 y176 _ _ _ (fun _ => True) (fun _ => False) rfl rfl ?aO ?aR (fun _ _ h => h) (fun _ h => h.elim) ?aF ?aB ?aS ?aL ?_; (case aR => repeat (first | exact (Kd.C_below HR179.out HB.out) | (with_reducible refine Kd.C_alloc ?_ _) | (with_reducible refine Kd.C_drewN ?_ _) | (with_reducible refine Kd.C_drew ?_))); (case aB => exact (be_ HB)); (case aF => exact (fun _ _ => trivial)); (case aO => exact (kr_ HO175)); (case aS => exact (below_size (be_ HB))); (case aL => have := LMc6.out; omega); intro v181 w21 ho hb hg hat; rw [← Ny180.out] at ho; replace HB := Aside0.mk (hb); have HO182 := Aside0.mk (ho); clear HO175 ho hb hg hat; have p183 : 0 ≤ ((ji3) : Int) := od_; have q183 : (ji3) < (l0.length : Int) := od_; obtain ⟨ad183, e183, hx183_0, hx183_1⟩ := at_T68 HR0.out (ji3) p183 q183; cases e183; replace hx183_0 := hb_ HB hx183_0; replace hx183_1 := hb_ HB hx183_1; replace p183 := eq_true p183; replace q183 := eq_true q183; have p15 : 0 ≤ (a1 : Int) := od_; have q15 : (a1 : Int) < ((y180.length : Int) : Int) := od_; obtain ⟨go15, co15, eo15, gb15, gl15, cl15, HG15⟩ := Kd.R_form HO182.out (by omega); (first | cases eo15 | (injection eo15 with ea_ en_ ec_; (first | subst ea_ | (injection ea_ with ea_; subst ea_)); subst ec_; clear en_)); have GB15 := Aside0.mk gb15; have GG15 := Aside0.mk HG15; clear gb15 gl15 HG15; obtain ⟨ce15, hcl15, hM15, hcc15, hfr15⟩ := Kd.R_elem HO182.out z68 (a1 : Int) p15 q15; obtain rfl := k68_openM hM15; have hx15_0 : w21.cell? ⟨go15, (a1 : Int).toNat * 2, none⟩ = some (.int .i64 ((rd_T68 y180 a1).f0)) := hcc15 0 _ rfl; have hx15_1 : w21.cell? ⟨go15, (a1 : Int).toNat * 2 + 1, none⟩ = some (.int .i64 ((rd_T68 y180 a1).f1)) := hcc15 1 _ rfl; have hf15_0 : w21.frozen? ⟨go15, (a1 : Int).toNat * 2, none⟩ = false := hfr15 0; have hf15_1 : w21.frozen? ⟨go15, (a1 : Int).toNat * 2 + 1, none⟩ = false := hfr15 1; clear hcl15 hcc15 hfr15 hM15; replace p15 := eq_true p15; replace q15 := eq_true q15; have HX22 := Aside0.mk (show Kd.R k68 68 w21 w.heap.size (fun _ => True) (.slice (some ⟨go15, 0, none⟩) y180.length co15) y180 from (kr_ HO182)); obtain ⟨ce22, hcl22, hM22, hcc22, hfr22⟩ := Kd.R_elem HX22.out z68 (a1 : Int) (od_) (by have h_ : (a1 : Int) < ((y180.length : Int) : Int) := od_; first | exact h_ | (have e_ := (Kd.R_reads' HO182.out).1; omega) | simpa using h_); obtain rfl := k68_openM hM22; have HP22 := Kd.R_seg HX22.out (a1 : Int) (od_) (by have h_ : (a1 : Int) < ((y180.length : Int) : Int) := od_; first | exact h_ | (have e_ := (Kd.R_reads' HO182.out).1; omega) | simpa using h_) (seg := [.int .i64 ((rd_T68 l0 (ji3)).f0), .int .i64 ((rd_T68 l0 (ji3)).f1)]) (j := 0) hcl22 hcc22 (show 2 ≤ 2 from by decide) (x' := (⟨(rd_T68 l0 (ji3)).f0, (rd_T68 l0 (ji3)).f1⟩ : S68)) (k68_mkM _ _ _ (⟨(rd_T68 l0 (ji3)).f0, (rd_T68 l0 (ji3)).f1⟩ : S68) ) (fun _ hk => by first | exact hk | grind); have hx22_0 := hcc22 0 _ rfl; (try simp only [show (k68).sz = 2 from rfl, Nat.mul_one, Nat.add_zero] at hx22_0); have hf22_0 := hfr22 0; (try simp only [show (k68).sz = 2 from rfl, Nat.mul_one, Nat.add_zero] at hf22_0); have hx22_1 := hcc22 1 _ rfl; (try simp only [show (k68).sz = 2 from rfl, Nat.mul_one, Nat.add_zero] at hx22_1); have hf22_1 := hfr22 1; (try simp only [show (k68).sz = 2 from rfl, Nat.mul_one, Nat.add_zero] at hf22_1); clear hcl22 hcc22 hfr22 hM22) | ((with_reducible refine gate_store (t := 68) (p := 27) rfl ?_); refine store_event (t := 68) (p := 27) (v := ?vo_w23) (w1 := ((w21.setCell ⟨go15, (a1 : Int).toNat * 2, none⟩ (.int .i64 ((rd_T68 l0 (ji3)).f0))).setCell ⟨go15, (a1 : Int).toNat * 2 + 1, none⟩ (.int .i64 ((rd_T68 l0 (ji3)).f1)))) ?hg ?ho ?hn ?hr ?_; (case ho => rfl); (case hg => rfl); (case hn => rfl); (case hr => first | (go_simp; done) | (go_simp; rfl)); intro w23 hw; have hg : w21.grownBy w23 (some go15) := (by rw [hw]; exact HP22.2); have hp_ : Kd.R k68 68 w23 w.heap.size (fun _ => True) (.slice (some ⟨go15, 0, none⟩) y180.length co15) y184 := (by rw [hw, Ny184.out]; exact HP22.1); clear HP22; replace HO182 := Aside0.mk (hp_); replace HB := Aside0.mk ((by rw [hw]; exact below_set (below_set (HB.out) GB15.out) GB15.out : Below w.heap.size w w23)); clear hg hw hp_) | ((with_reducible refine gc_ 131 rfl ?_); refine gl_ 31 Try.func131 #[.slice (some ⟨go15, 0, none⟩) y180.length co15, .int .i64 a1] ?_; (with_reducible refine (spec_l15Up.calls k (fun k_ => some k_ = (.slice (some ⟨go15, 0, none⟩) y180.length co15 : Value).ownBlock) (.slice (some ⟨go15, 0, none⟩) y180.length co15) y184 a1 t185 t188 w _ ?side1 ?side2 A16.out).mono ?_); (case side1 => exact be_ HB); (case side2 => exact Kd.R_tight rfl HO182.out); rintro e w24 ⟨v186, rfl, ho0, hb, hkp⟩; refine ⟨_, rfl, ?_⟩; have HO187 := Aside0.mk (Kd.R_mono (ok' := fun k_ => True) ho0 (fun k_ hk_ => trivial)); replace HB := Aside0.mk (hb); clear HO182; (try clear hb); (try clear hkp); (try clear ho0); obtain ⟨Ao25, co25, eo25⟩ := Kd.R_slice HO187.out; subst eo25) | ((with_reducible refine gc_ 132 rfl ?_); refine gl_ 36 Try.func132 #[.slice Ao25 t185.length co25, .int .i64 t188] ?_; (with_reducible refine (spec_l15Down.calls k (fun k_ => some k_ = (.slice Ao25 t185.length co25 : Value).ownBlock) (.slice Ao25 t185.length co25) t185 t188 t189 w _ ?side1 ?side2 A17.out).mono ?_); (case side1 => exact be_ HB); (case side2 => exact Kd.R_tight rfl HO187.out); rintro e w26 ⟨v190, rfl, ho0, hb, hkp⟩; refine ⟨_, rfl, ?_⟩; have HO191 := Aside0.mk (Kd.R_mono (ok' := fun k_ => True) ho0 (fun k_ hk_ => trivial)); replace HB := Aside0.mk (hb); clear HO187; (try clear hb); (try clear hkp); (try clear ho0)))
        go_ret
        exact ⟨_, by first | rfl | (simp [errW_none, errW_some] <;> rfl) | (simp only [← hji3]; first | rfl | (simp [errW_none, errW_some] <;> rfl)) | (simp [*, errW_none, errW_some] <;> rfl), by (with_reducible repeat (first | apply Kd.R_alloc | apply Kd.R_drewN | apply Kd.R_drew)); exact HO191.out, be_ HB⟩
       ·rw [if_neg c14] at H
        exact absurd H (by simp)
      ·rw [if_neg c13] at H
       exact absurd H (by simp)
     ·rw [if_neg c12] at H
      exact absurd H (by simp)
   ·rw [if_neg c6] at H
    exact absurd H (by simp)
  ·rw [if_neg c5] at H
   exact absurd H (by simp)
 ·rw [if_neg c4] at H
  exact absurd H (by simp)

/-! ### spec_HeapDrop: function 35 -/
def spec_HeapDrop.f (k : Nat) (l0_0 : List (S68)) (a1 : Int) : Option ((List (S68)) × Int) := (spec_HeapOk.f k l0_0).bind fun t194 => (if t194 = true then ((spec_l15At.f k l0_0 a1).bind fun t195 => (if t195 < 0 then (some (([] : List (S68)), 4)) else ((spec_l15Out.f k l0_0 t195).bind fun t196 => (some (t196, 0))))) else (some (([] : List (S68)), 1)))
theorem spec_HeapDrop.mono : ∀ a0 a1 k, LeO (spec_HeapDrop.f k a0 a1) (spec_HeapDrop.f (k + 1) a0 a1) := by
 intro a0 a1 k
 unfold spec_HeapDrop.f
 repeat' (first | (with_reducible exact spec_HeapOk.mono _ _) | (with_reducible exact spec_l15At.mono _ _ _) | (with_reducible exact spec_l15Out.mono _ _ _) | (with_reducible exact LeO.refl _) | (with_reducible exact LeO.none _) | (with_reducible refine LeO.ite ?_ ?_) | (with_reducible refine LeO.bind ?_ (fun _ => ?_)) | exact spec_HeapOk.mono _ _ | exact spec_l15At.mono _ _ _ | exact spec_l15Out.mono _ _ _ | exact LeO.none _ | refine LeO.ite ?_ ?_ | refine LeO.bind ?_ (fun _ => ?_))
set_option maxHeartbeats 8000000 in
set_option maxRecDepth 100000 in
theorem spec_HeapDrop.calls (k : Nat) (A0_0 : Option Addr) (c0_0 : Nat) (l0_0 : List (S68)) (a1 : Int) (r1 : List (S68)) (r2 : Int) (w : World) (hr0_0 : Kd.C k68 w A0_0 l0_0.length l0_0) (hc0_0 : l0_0.length ≤ c0_0) (h : spec_HeapDrop.f k l0_0 a1 = some (r1, r2)) :
  Calls Try.prog 35 #[.agg #[.slice A0_0 l0_0.length c0_0], .int .i64 a1] w fun e w' => ∃ v0_ : Value, e = .returned (.tuple #[.agg #[v0_], .int .i64 r2]) ∧ Kd.R k68 68 w' w.heap.size (fun _ => True) v0_ r1 ∧ Below w.heap.size w w' := by
 have hu29 := Try.underlying29
 have HR0_0 := Aside0.mk hr0_0
 have HC0_0 := Aside0.mk hc0_0
 clear hr0_0 hc0_0; have HB := Aside0.mk (Below.refl w.heap.size w)
 have H := h
 clear h
 unfold spec_HeapDrop.f at H
 replace H := Option.bind_eq_some_iff.mp H
 obtain ⟨t194, A30, H⟩ := H
 have A3 := Aside0.mk A30
 clear A30
 by_cases c4 : t194 = true
 ·subst c4
  rw [if_pos rfl] at H
  replace H := Option.bind_eq_some_iff.mp H
  obtain ⟨t195, A50, H⟩ := H
  have A5 := Aside0.mk A50
  clear A50
  by_cases c6 : t195 < 0
  ·rw [if_pos c6] at H
   have c6b0 : decide (t195 < 0) = true := decide_eq_true c6
   clear c6
   simp only [Option.some.injEq, Prod.mk.injEq] at H
   obtain ⟨rfl, rfl⟩ := H
   go_enter Try.func35, Try.ntmps35
   go_wp2_with (first | ((with_reducible refine gd_ 2 rfl ?_); refine bv_ 2 #[.slice A0_0 l0_0.length c0_0] 29 ?_; intro gb192 hg w7 hbox hb; have BK192 := Aside0.mk (hbox); have GW192 := gw_ HB hg; have GE192 := gw_ HB hg; replace HB := Aside0.mk (below_step (be_ HB) hb); clear hb hbox hg) | ((with_reducible refine gd_ 4 rfl ?_); refine bv_ 4 #[.slice none 0 0] 29 ?_; intro gb193 hg w8 hbox hb; have BK193 := Aside0.mk (hbox); have GW193 := gw_ HB hg; have GE193 := gw_ HB hg; replace HB := Aside0.mk (below_step (bf_ HB) hb); have NB192_193 := nl_ BK192 hg; have NB193_192 := ng_ BK192 hg; replace BK192 := bb_ BK192 hb; clear hb hbox hg; have hnb9 := NB192_193.out; have hnc9 := NB193_192.out; obtain ⟨hcz10_0, hfz10_0⟩ := bz1_ BK192) | ((with_reducible refine gc_ 40 rfl ?_); refine gl_ 8 Try.func40 #[.agg #[.slice A0_0 l0_0.length c0_0]] ?_; (with_reducible refine (spec_HeapOk.calls k _ _ l0_0 true _ ?side1 ?side2 A3.out).mono ?_); (case side1 => repeat (first | exact (Kd.C_below HR0_0.out HB.out) | (with_reducible refine Kd.C_alloc ?_ _) | (with_reducible refine Kd.C_drewN ?_ _) | (with_reducible refine Kd.C_drew ?_))); (case side2 => exact HC0_0.out); rintro e w11 ⟨rfl, hb⟩; refine ⟨_, rfl, ?_⟩; replace BK192 := bb_ BK192 hb; replace BK193 := bb_ BK193 hb; replace HB := Aside0.mk (below_step (bf_ HB) hb); (try clear hb); (try clear hb2); (try clear hk); (try clear hi); obtain ⟨hcz12_0, hfz12_0⟩ := bz1_ BK192) | ((with_reducible refine gc_ 93 rfl ?_); refine gl_ 14 Try.func93 #[.slice A0_0 l0_0.length c0_0, .int .i64 a1] ?_; (with_reducible refine (spec_l15At.calls k _ _ l0_0 a1 t195 _ ?side1 ?side2 A5.out).mono ?_); (case side1 => repeat (first | exact (Kd.C_below HR0_0.out HB.out) | (with_reducible refine Kd.C_alloc ?_ _) | (with_reducible refine Kd.C_drewN ?_ _) | (with_reducible refine Kd.C_drew ?_))); (case side2 => exact HC0_0.out); rintro e w' ⟨rfl, ⟨nd, rfl⟩⟩; refine ⟨_, rfl, ?_⟩; (try (rw [drewN_self w11]; generalize hq_ : World.drewN w11 _ = w11; have n0_ : Aside0 (w11.heap[gb192]? = some (.cells #[.slice A0_0 l0_0.length c0_0] 29 (0, 0))) := ⟨by rw [← hq_]; exact (bk_ BK192)⟩; have n1_ : Aside0 (w11.heap[gb193]? = some (.cells #[.slice none 0 0] 29 (0, 0))) := ⟨by rw [← hq_]; exact (bk_ BK193)⟩; have n2_ : Aside0 (Below w.heap.size w w11) := ⟨by rw [← hq_]; exact (bf_ HB)⟩; clear BK192 BK193 HB hq_; have BK192 := n0_; have BK193 := n1_; have HB := n2_; clear n0_ n1_ n2_; have hcs192_0 := bc_ BK192 0 (.slice A0_0 l0_0.length c0_0) rfl; have hfs192_0 := blk_frozen BK192.out 0; have hcs193_0 := bc_ BK193 0 (.slice none 0 0) rfl; have hfs193_0 := blk_frozen BK193.out 0)); obtain ⟨hcz13_0, hfz13_0⟩ := bz1_ BK193))
   refine bodyPost_ret (results_ct rfl _ _ gb193 29 #[.slice none 0 0] (0, 0) _ rfl (by (with_reducible repeat (first | refine blk_drewN ?_ _ | refine blk_drew ?_ | refine blk_alloc ?_ _)); refine blk_put (cs := #[.slice none 0 0]) ?_ 0 _ rfl; exact bk_ BK193) Try.underlying29 rfl (by kernel_rfl)) rfl ?_
   exact ⟨_, by first | rfl | (simp [errW_none, errW_some] <;> rfl) | (simp [*, errW_none, errW_some] <;> rfl), by first | exact Kd.R_nil _ _ _ _ _ | exact Kd.N_nil _ _ _ _ _ | exact Kd.V_nil _ _ _ _ _ | exact Kd.Q_nil _ _ _ _ _ | exact Kd.S_nil _ _ _ _ _, bf_ HB⟩
  ·rw [if_neg c6] at H
   have c6b0 : decide (t195 < 0) = false := decide_eq_false c6
   clear c6
   replace H := Option.bind_eq_some_iff.mp H
   obtain ⟨t196, A140, H⟩ := H
   have A14 := Aside0.mk A140
   clear A140
   simp only [Option.some.injEq, Prod.mk.injEq] at H
   obtain ⟨rfl, rfl⟩ := H
   go_enter Try.func35, Try.ntmps35
   go_wp2_with (first | ((with_reducible refine gd_ 2 rfl ?_); refine bv_ 2 #[.slice A0_0 l0_0.length c0_0] 29 ?_; intro gb192 hg w15 hbox hb; have BK192 := Aside0.mk (hbox); have GW192 := gw_ HB hg; have GE192 := gw_ HB hg; replace HB := Aside0.mk (below_step (be_ HB) hb); clear hb hbox hg) | ((with_reducible refine gd_ 4 rfl ?_); refine bv_ 4 #[.slice none 0 0] 29 ?_; intro gb193 hg w16 hbox hb; have BK193 := Aside0.mk (hbox); have GW193 := gw_ HB hg; have GE193 := gw_ HB hg; replace HB := Aside0.mk (below_step (bf_ HB) hb); have NB192_193 := nl_ BK192 hg; have NB193_192 := ng_ BK192 hg; replace BK192 := bb_ BK192 hb; clear hb hbox hg; have hnb17 := NB192_193.out; have hnc17 := NB193_192.out; obtain ⟨hcz18_0, hfz18_0⟩ := bz1_ BK192) | ((with_reducible refine gc_ 40 rfl ?_); refine gl_ 8 Try.func40 #[.agg #[.slice A0_0 l0_0.length c0_0]] ?_; (with_reducible refine (spec_HeapOk.calls k _ _ l0_0 true _ ?side1 ?side2 A3.out).mono ?_); (case side1 => repeat (first | exact (Kd.C_below HR0_0.out HB.out) | (with_reducible refine Kd.C_alloc ?_ _) | (with_reducible refine Kd.C_drewN ?_ _) | (with_reducible refine Kd.C_drew ?_))); (case side2 => exact HC0_0.out); rintro e w19 ⟨rfl, hb⟩; refine ⟨_, rfl, ?_⟩; replace BK192 := bb_ BK192 hb; replace BK193 := bb_ BK193 hb; replace HB := Aside0.mk (below_step (bf_ HB) hb); (try clear hb); (try clear hb2); (try clear hk); (try clear hi); obtain ⟨hcz20_0, hfz20_0⟩ := bz1_ BK192) | ((with_reducible refine gc_ 93 rfl ?_); refine gl_ 14 Try.func93 #[.slice A0_0 l0_0.length c0_0, .int .i64 a1] ?_; (with_reducible refine (spec_l15At.calls k _ _ l0_0 a1 t195 _ ?side1 ?side2 A5.out).mono ?_); (case side1 => repeat (first | exact (Kd.C_below HR0_0.out HB.out) | (with_reducible refine Kd.C_alloc ?_ _) | (with_reducible refine Kd.C_drewN ?_ _) | (with_reducible refine Kd.C_drew ?_))); (case side2 => exact HC0_0.out); rintro e w' ⟨rfl, ⟨nd, rfl⟩⟩; refine ⟨_, rfl, ?_⟩; (try (rw [drewN_self w19]; generalize hq_ : World.drewN w19 _ = w19; have n0_ : Aside0 (w19.heap[gb192]? = some (.cells #[.slice A0_0 l0_0.length c0_0] 29 (0, 0))) := ⟨by rw [← hq_]; exact (bk_ BK192)⟩; have n1_ : Aside0 (w19.heap[gb193]? = some (.cells #[.slice none 0 0] 29 (0, 0))) := ⟨by rw [← hq_]; exact (bk_ BK193)⟩; have n2_ : Aside0 (Below w.heap.size w w19) := ⟨by rw [← hq_]; exact (bf_ HB)⟩; clear BK192 BK193 HB hq_; have BK192 := n0_; have BK193 := n1_; have HB := n2_; clear n0_ n1_ n2_; have hcs192_0 := bc_ BK192 0 (.slice A0_0 l0_0.length c0_0) rfl; have hfs192_0 := blk_frozen BK192.out 0; have hcs193_0 := bc_ BK193 0 (.slice none 0 0) rfl; have hfs193_0 := blk_frozen BK193.out 0))) | ((with_reducible refine gc_ 94 rfl ?_); refine gl_ 21 Try.func94 #[.slice A0_0 l0_0.length c0_0, .int .i64 t195] ?_; (with_reducible refine (spec_l15Out.calls k _ _ l0_0 t195 t196 _ ?side1 ?side2 A14.out).mono ?_); (case side1 => repeat (first | exact (Kd.C_below HR0_0.out HB.out) | (with_reducible refine Kd.C_alloc ?_ _) | (with_reducible refine Kd.C_drewN ?_ _) | (with_reducible refine Kd.C_drew ?_))); (case side2 => exact HC0_0.out); rintro e w21 ⟨v197, rfl, ho0, hb⟩; refine ⟨_, rfl, ?_⟩; have HO198 := Aside0.mk (Kd.R_lower ho0 (below_size (bf_ HB))); replace BK192 := bb_ BK192 hb; replace BK193 := bb_ BK193 hb; replace HB := Aside0.mk (below_step (bf_ HB) hb); (try clear hb); (try clear hb2); (try clear hk); (try clear hi); (try clear ho0); obtain ⟨Ao22, co22, eo22⟩ := Kd.R_slice HO198.out; subst eo22; obtain ⟨hcz23_0, hfz23_0⟩ := bz1_ BK193))
   refine bodyPost_ret (results_ct rfl _ _ gb193 29 #[.slice Ao22 t196.length co22] (0, 0) _ rfl (by (with_reducible repeat (first | refine blk_drewN ?_ _ | refine blk_drew ?_ | refine blk_alloc ?_ _)); refine blk_put (cs := #[.slice none 0 0]) ?_ 0 _ rfl; exact bk_ BK193) Try.underlying29 rfl (by kernel_rfl)) rfl ?_
   exact ⟨_, by first | rfl | (simp [errW_none, errW_some] <;> rfl) | (simp [*, errW_none, errW_some] <;> rfl), by (with_reducible repeat (first | apply Kd.R_alloc | apply Kd.R_drewN | apply Kd.R_drew)); exact Kd.R_mono (Kd.R_far (p := ⟨gb193, 0, none⟩) (Kd.R_types HO198.out BK193.out (by decide)) (fun _ hk => by first | exact hk.2 | grind) (.slice Ao22 t196.length co22)) (fun _ hk => by first | exact trivial | grind), bf_ HB⟩
 ·replace c4 := Bool.eq_false_iff.mpr c4
  subst c4
  rw [if_neg (show ¬ (false = true) by decide)] at H
  simp only [Option.some.injEq, Prod.mk.injEq] at H
  obtain ⟨rfl, rfl⟩ := H
  go_enter Try.func35, Try.ntmps35
  go_wp2_with (first | ((with_reducible refine gd_ 2 rfl ?_); refine bv_ 2 #[.slice A0_0 l0_0.length c0_0] 29 ?_; intro gb192 hg w24 hbox hb; have BK192 := Aside0.mk (hbox); have GW192 := gw_ HB hg; have GE192 := gw_ HB hg; replace HB := Aside0.mk (below_step (be_ HB) hb); clear hb hbox hg) | ((with_reducible refine gd_ 4 rfl ?_); refine bv_ 4 #[.slice none 0 0] 29 ?_; intro gb193 hg w25 hbox hb; have BK193 := Aside0.mk (hbox); have GW193 := gw_ HB hg; have GE193 := gw_ HB hg; replace HB := Aside0.mk (below_step (bf_ HB) hb); have NB192_193 := nl_ BK192 hg; have NB193_192 := ng_ BK192 hg; replace BK192 := bb_ BK192 hb; clear hb hbox hg; have hnb26 := NB192_193.out; have hnc26 := NB193_192.out; obtain ⟨hcz27_0, hfz27_0⟩ := bz1_ BK192) | ((with_reducible refine gc_ 40 rfl ?_); refine gl_ 8 Try.func40 #[.agg #[.slice A0_0 l0_0.length c0_0]] ?_; (with_reducible refine (spec_HeapOk.calls k _ _ l0_0 false _ ?side1 ?side2 A3.out).mono ?_); (case side1 => repeat (first | exact (Kd.C_below HR0_0.out HB.out) | (with_reducible refine Kd.C_alloc ?_ _) | (with_reducible refine Kd.C_drewN ?_ _) | (with_reducible refine Kd.C_drew ?_))); (case side2 => exact HC0_0.out); rintro e w28 ⟨rfl, hb⟩; refine ⟨_, rfl, ?_⟩; replace BK192 := bb_ BK192 hb; replace BK193 := bb_ BK193 hb; replace HB := Aside0.mk (below_step (bf_ HB) hb); (try clear hb); (try clear hb2); (try clear hk); (try clear hi); obtain ⟨hcz29_0, hfz29_0⟩ := bz1_ BK193))
  refine bodyPost_ret (results_ct rfl _ _ gb193 29 #[.slice none 0 0] (0, 0) _ rfl (by (with_reducible repeat (first | refine blk_drewN ?_ _ | refine blk_drew ?_ | refine blk_alloc ?_ _)); refine blk_put (cs := #[.slice none 0 0]) ?_ 0 _ rfl; exact bk_ BK193) Try.underlying29 rfl (by kernel_rfl)) rfl ?_
  exact ⟨_, by first | rfl | (simp [errW_none, errW_some] <;> rfl) | (simp [*, errW_none, errW_some] <;> rfl), by first | exact Kd.R_nil _ _ _ _ _ | exact Kd.N_nil _ _ _ _ _ | exact Kd.V_nil _ _ _ _ _ | exact Kd.Q_nil _ _ _ _ _ | exact Kd.S_nil _ _ _ _ _, bf_ HB⟩

/-! ### impl_Ahead: function 68 -/
def impl_Ahead.f (a0_0 : Int) (a0_1 : Int) (a1_0 : Int) (a1_1 : Int) : Option (Bool) := if a0_0 < a1_0 then (some true) else (if a0_0 = a1_0 then (some (decide (a0_1 < a1_1))) else (some false))
set_option maxHeartbeats 8000000 in
set_option maxRecDepth 100000 in
theorem impl_Ahead.calls (a0_0 : Int) (a0_1 : Int) (a1_0 : Int) (a1_1 : Int) (r : Bool) (w : World) (h : impl_Ahead.f a0_0 a0_1 a1_0 a1_1 = some r) :
  Calls Try.prog 68 #[.agg #[.int .i64 a0_0, .int .i64 a0_1], .agg #[.int .i64 a1_0, .int .i64 a1_1]] w fun e w' => e = .returned (.bool r) ∧ Below w.heap.size w w' := by
 have hu68 := Try.underlying68; have HB := Aside0.mk (Below.refl w.heap.size w)
 have H := h
 clear h
 unfold impl_Ahead.f at H
 by_cases c3 : a0_0 < a1_0
 ·rw [if_pos c3] at H
  have c3b0 : decide (a0_0 < a1_0) = true := decide_eq_true c3
  clear c3
  obtain rfl := Option.some.inj H
  go_enter Try.func68, Try.ntmps68
  go_wp2_with (first | ((with_reducible refine gd_ 2 rfl ?_); refine bv_ 2 #[.int .i64 a0_0, .int .i64 a0_1] 68 ?_; intro gb199 hg w4 hbox hb; have BK199 := Aside0.mk (hbox); have GW199 := gw_ HB hg; have GE199 := gw_ HB hg; replace HB := Aside0.mk (below_step (be_ HB) hb); clear hb hbox hg) | ((with_reducible refine gd_ 3 rfl ?_); refine bv_ 3 #[.int .i64 a1_0, .int .i64 a1_1] 68 ?_; intro gb200 hg w5 hbox hb; have BK200 := Aside0.mk (hbox); have GW200 := gw_ HB hg; have GE200 := gw_ HB hg; replace HB := Aside0.mk (below_step (bf_ HB) hb); have NB199_200 := nl_ BK199 hg; have NB200_199 := ng_ BK199 hg; replace BK199 := bb_ BK199 hb; clear hb hbox hg; have hnb6 := NB199_200.out; have hnc6 := NB200_199.out; obtain ⟨hcz7_0, hcz7_1, hfz7_0, hfz7_1⟩ := bz2_ BK199; obtain ⟨hcz8_0, hcz8_1, hfz8_0, hfz8_1⟩ := bz2_ BK200))
  go_ret
  exact ⟨by first | rfl | (simp [errW_none, errW_some] <;> rfl) | (simp [*, errW_none, errW_some] <;> rfl), bf_ HB⟩
 ·rw [if_neg c3] at H
  have c3b0 : decide (a0_0 < a1_0) = false := decide_eq_false c3
  clear c3
  by_cases c9 : a0_0 = a1_0
  ·rw [if_pos c9] at H
   have c9b0 : (a0_0 == a1_0) = true := beq_iff_eq.mpr c9
   have c9b1 : (a0_0 != a1_0) = false := bne_eq_false_iff_eq.mpr c9
   clear c9
   obtain rfl := Option.some.inj H
   go_enter Try.func68, Try.ntmps68
   go_wp2_with (first | ((with_reducible refine gd_ 2 rfl ?_); refine bv_ 2 #[.int .i64 a0_0, .int .i64 a0_1] 68 ?_; intro gb199 hg w10 hbox hb; have BK199 := Aside0.mk (hbox); have GW199 := gw_ HB hg; have GE199 := gw_ HB hg; replace HB := Aside0.mk (below_step (be_ HB) hb); clear hb hbox hg) | ((with_reducible refine gd_ 3 rfl ?_); refine bv_ 3 #[.int .i64 a1_0, .int .i64 a1_1] 68 ?_; intro gb200 hg w11 hbox hb; have BK200 := Aside0.mk (hbox); have GW200 := gw_ HB hg; have GE200 := gw_ HB hg; replace HB := Aside0.mk (below_step (bf_ HB) hb); have NB199_200 := nl_ BK199 hg; have NB200_199 := ng_ BK199 hg; replace BK199 := bb_ BK199 hb; clear hb hbox hg; have hnb12 := NB199_200.out; have hnc12 := NB200_199.out; obtain ⟨hcz13_0, hcz13_1, hfz13_0, hfz13_1⟩ := bz2_ BK199; obtain ⟨hcz14_0, hcz14_1, hfz14_0, hfz14_1⟩ := bz2_ BK200))
   go_ret
   exact ⟨by first | rfl | (simp [errW_none, errW_some] <;> rfl) | (simp [*, errW_none, errW_some] <;> rfl), bf_ HB⟩
  ·rw [if_neg c9] at H
   have c9b0 : (a0_0 == a1_0) = false := beq_eq_false_iff_ne.mpr c9
   have c9b1 : (a0_0 != a1_0) = true := bne_iff_ne.mpr c9
   obtain rfl := Option.some.inj H
   go_enter Try.func68, Try.ntmps68
   go_wp2_with (first | ((with_reducible refine gd_ 2 rfl ?_); refine bv_ 2 #[.int .i64 a0_0, .int .i64 a0_1] 68 ?_; intro gb199 hg w15 hbox hb; have BK199 := Aside0.mk (hbox); have GW199 := gw_ HB hg; have GE199 := gw_ HB hg; replace HB := Aside0.mk (below_step (be_ HB) hb); clear hb hbox hg) | ((with_reducible refine gd_ 3 rfl ?_); refine bv_ 3 #[.int .i64 a1_0, .int .i64 a1_1] 68 ?_; intro gb200 hg w16 hbox hb; have BK200 := Aside0.mk (hbox); have GW200 := gw_ HB hg; have GE200 := gw_ HB hg; replace HB := Aside0.mk (below_step (bf_ HB) hb); have NB199_200 := nl_ BK199 hg; have NB200_199 := ng_ BK199 hg; replace BK199 := bb_ BK199 hb; clear hb hbox hg; have hnb17 := NB199_200.out; have hnc17 := NB200_199.out; obtain ⟨hcz18_0, hcz18_1, hfz18_0, hfz18_1⟩ := bz2_ BK199; obtain ⟨hcz19_0, hcz19_1, hfz19_0, hfz19_1⟩ := bz2_ BK200))
   go_ret
   exact ⟨by first | rfl | (simp [errW_none, errW_some] <;> rfl) | (simp [*, errW_none, errW_some] <;> rfl), bf_ HB⟩

-- NOT PRINTED: function 133 (impl_Item_133)

/-! ### impl_Heap_place_1: function 134 -/
def impl_Heap_place_1.f (a0_0 : Int) (a0_1 : Int) (a1 : Int) : Option (Bool) := some (a0_1 == a1)
set_option maxHeartbeats 8000000 in
set_option maxRecDepth 100000 in
theorem impl_Heap_place_1.calls (a0_0 : Int) (a0_1 : Int) (a1 : Int) (r : Bool) (w : World) (gb201 : Nat) (hb_gb201 : w.heap[gb201]? = some (.cells #[.int .i64 a1] 3 (0, 0))) (h : impl_Heap_place_1.f a0_0 a0_1 a1 = some r) :
  Calls Try.prog 134 #[.agg #[.int .i64 a0_0, .int .i64 a0_1], .pointer (some ⟨gb201, 0, none⟩)] w fun e w' => e = .returned (.bool r) ∧ Below w.heap.size w w' := by
 have hu68 := Try.underlying68; have HB := Aside0.mk (Below.refl w.heap.size w)
 have H := h
 clear h
 unfold impl_Heap_place_1.f at H
 obtain rfl := Option.some.inj H
 have BK201 := Aside0.mk hb_gb201
 go_enter Try.func134, Try.ntmps134
 go_wp2_with (first | ((with_reducible refine gd_ 2 rfl ?_); refine bv_ 2 #[.int .i64 a0_0, .int .i64 a0_1] 68 ?_; intro gb202 hg w4 hbox hb; have BK202 := Aside0.mk (hbox); have GW202 := gw_ HB hg; have GE202 := gw_ HB hg; replace HB := Aside0.mk (below_step (bf_ HB) hb); have NB201_202 := nl_ BK201 hg; have NB202_201 := ng_ BK201 hg; replace BK201 := bb_ BK201 hb; clear hb hbox hg; have hnb5 := NB202_201.out; have hnc5 := NB201_202.out; obtain ⟨hcz6_0, hcz6_1, hfz6_0, hfz6_1⟩ := bz2_ BK202; obtain ⟨hcz7_0, hfz7_0⟩ := bz1_ BK201))
 go_ret
 exact ⟨by first | rfl | (simp [errW_none, errW_some] <;> rfl) | (simp [*, errW_none, errW_some] <;> rfl), bf_ HB⟩

end Go.Proofs.Ytnklakficjpmoaa.PFnExactHeapDrop
