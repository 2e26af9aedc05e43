-- printed by a program of this session (wip/printx) out of the translation; Lean checks it
import Derived.Test.YtnklakficjpmoaaVFnHeapBook
import Derived.Test.YtnklakficjpmoaaPFnHeapBookx0
import Derived.Test.YtnklakficjpmoaaPFnHeapBookx7
import Derived.Test.YtnklakficjpmoaaPFnHeapBookx8
namespace Go.Proofs.Ytnklakficjpmoaa.PFnHeapBook
open Go.RowKit Go.Proofs.YtnklakficjpmoaaW.PrintWords Go.Proofs.YtnklakficjpmoaaW.PrintLast Go.Proofs.YtnklakficjpmoaaW.PrintMore
attribute [local go_sem] max2_int min2_int max_two min_two max_three min_three max_four min_four   -- for this text's walks alone
set_option linter.unusedVariables false
set_option linter.unusedSimpArgs false

/-! ### spec_l15Up: function 131 -/
mutual
def spec_l15Up.j0 : Nat → List (S68) → Int → Bool → Option ((List (S68)) × Int)
  | 0, _, _, _ => none
  | k + 1, x0, x1, x21 => if x21 = true then (some (x0, x1)) else ((spec_l15Swap.f x0 x1 (wrap64 (Int.tdiv (wrap64 (x1 - 1)) 2))).bind fun t249 => ((spec_l15Up.f k t249 (wrap64 (Int.tdiv (wrap64 (x1 - 1)) 2))).bind fun bt252 => (some (bt252.1, bt252.2))))
def spec_l15Up.f : Nat → List (S68) → Int → Option ((List (S68)) × Int)
  | 0, _, _ => none
  | k + 1, l0, a1 => if a1 = 0 then (spec_l15Up.j0 k l0 a1 true) else (if 0 ≤ a1 then (if a1 < (l0.length : Int) then (if 0 ≤ (wrap64 (Int.tdiv (wrap64 (a1 - 1)) 2)) then (if (wrap64 (Int.tdiv (wrap64 (a1 - 1)) 2)) < (l0.length : Int) then ((spec_Ahead.f ((rd_T68 l0 a1).f0) ((rd_T68 l0 a1).f1) ((rd_T68 l0 (wrap64 (Int.tdiv (wrap64 (a1 - 1)) 2))).f0) ((rd_T68 l0 (wrap64 (Int.tdiv (wrap64 (a1 - 1)) 2))).f1)).bind fun t248 => (spec_l15Up.j0 k l0 a1 (!t248))) else (none)) else (none)) else (none)) else (none))
end
theorem spec_l15Up.mono_l : ∀ k, (∀ y0 y1, LeO (spec_l15Up.f k y0 y1) (spec_l15Up.f (k + 1) y0 y1)) ∧ (∀ y0 y1 y2, LeO (spec_l15Up.j0 k y0 y1 y2) (spec_l15Up.j0 (k + 1) y0 y1 y2))
 | 0 => ⟨fun _ _ r h => by simp [spec_l15Up.f] at h, fun _ _ _ r h => by simp [spec_l15Up.j0] at h⟩
 | k + 1 => by
  obtain ⟨ih0, ih1⟩ := spec_l15Up.mono_l k
  refine ⟨?_, ?_⟩ <;> intros <;> (first | unfold spec_l15Up.f | unfold spec_l15Up.j0) <;> repeat' (first | (with_reducible exact ih0 ..) | (with_reducible exact ih1 ..) | (with_reducible exact LeO.refl _) | (with_reducible exact LeO.none _) | (with_reducible refine LeO.ite ?_ ?_) | (with_reducible refine LeO.bind ?_ (fun _ => ?_)) | exact ih0 .. | exact ih1 .. | exact LeO.none _ | refine LeO.ite ?_ ?_ | refine LeO.bind ?_ (fun _ => ?_))
theorem spec_l15Up.mono : ∀ a0 a1 k, LeO (spec_l15Up.f k a0 a1) (spec_l15Up.f (k + 1) a0 a1) := by
 intro a0 a1 k
 obtain ⟨ih0, ih1⟩ := spec_l15Up.mono_l k
 exact ih0 a0 a1
def spec_l15Up.T1 : Bool × List (List Nat × List Nat) := (true, [([], []), ([0], [0]), ([1], [1]), ([2], [2]), ([2], [2]), ([3, 4, 2], [2, 3, 4]), ([5, 2], [2, 5]), ([2], [2]), ([2], [2]), ([8, 2], [2, 8]), ([9, 2], [2, 9]), ([7, 10, 2], [2, 7, 10]), ([11, 2], [2, 11]), ([6, 12, 2, 2], [2, 6, 12]), ([13, 2], [2, 13]), ([2, 14], [2, 14])])
def spec_l15Up.B1 : List Nat := [0, 1, 3, 7, 7, 31, 63, 7, 7, 263, 775, 1927, 3975, 8191, 16383, 32767]
theorem spec_l15Up.tab1 : rtab .any (opsOf Try.f131 1) = spec_l15Up.T1 := by kernel_rfl
theorem spec_l15Up.bits1 : waitsOk spec_l15Up.T1.2 spec_l15Up.B1 = true := by kernel_rfl
set_option maxHeartbeats 8000000 in
set_option maxRecDepth 100000 in
theorem spec_l15Up.calls (k : Nat) : ∀ (P0_ : Nat → Prop) (u9000_ : Value) (l0 : List (S68)) (a1 : Int) (r1 : List (S68)) (r2 : Int) (w0 w : World) (hB : Below w0.heap.size w0 w) (ho0 : Kd.R k68 68 w w0.heap.size P0_ u9000_ l0) (h : spec_l15Up.f k l0 a1 = some (r1, r2)),
  Calls Try.prog 131 #[u9000_, .int .i64 a1] w fun e w' => ∃ v0_ : Value, e = .returned (.tuple #[v0_, .int .i64 r2]) ∧ Kd.R k68 68 w' w0.heap.size (fun k_ => (P0_ k_ ∨ w.heap.size ≤ k_)) v0_ r1 ∧ Below w0.heap.size w0 w' ∧ Kept w w' (fun k_ => P0_ k_) := by
 induction k using Nat.strongRecOn with
 | _ k ih =>
 intro P0_ u9000_ l0 a1 r1 r2 w0 w hB ho0 h
 cases k with
 | zero => exact absurd h (by simp [spec_l15Up.f])
 | succ k =>
 simp only [spec_l15Up.f] at h
 have hu68 := Try.underlying68
 have HO0 := Aside0.mk (show Kd.R k68 68 w w0.heap.size (fun k_ => (P0_ k_ ∨ w.heap.size ≤ k_)) u9000_ l0 from Kd.R_mono ho0 (fun k_ hk => by first | exact (.inl hk) | grind))
 have HK := Aside0.mk (Kept.refl w (fun k_ => P0_ k_))
 have HW0 := Aside0.mk hB.size
 have HB := Aside0.mk hB; clear hB
 have H := h
 clear h
 unfold spec_l15Up.f at H
 have HC3 := Aside0.mk H
 clear H
 go_enter Try.func131, Try.ntmps131
 go_upto_region 1 with (fail)
 go_cut [21] (fun v21 wc => ∃ (kq : Nat) (x21_2 : Bool), v21 = .bool x21_2 ∧ Aside0 (spec_l15Up.j0 kq l0 a1 x21_2 = some (r1, r2)) ∧ Aside0 (kq ≤ k) ∧ Aside0 (Kd.R k68 68 wc w0.heap.size (fun k_ => (P0_ k_ ∨ w.heap.size ≤ k_)) u9000_ l0) ∧ Aside0 (Kept w wc (fun k_ => P0_ k_)) ∧ Aside0 (Below w0.heap.size w0 wc))
 case first =>
  have H := HC3.out
  clear HC3
  by_cases c4 : a1 = 0
  ·rw [if_pos c4] at H
   have c4b0 : (a1 == 0) = true := beq_iff_eq.mpr c4
   have c4b1 : (a1 != 0) = false := bne_eq_false_iff_eq.mpr c4
   clear c4
   (first | rw [c4b0] | (simp only [i64_w, i32_w]; rw [c4b0]) | skip)
   have H' := Aside0.mk H
   clear H
   try go_wp2
   have n0_ := Aside0.mk (Kd.R_drew HO0.out); have n1_ := Aside0.mk (Kept.drew HK.out); have n2_ := Aside0.mk (below_drew1 HB.out); clear HO0 HK HB; have HO0 := n0_
   have HK := n1_
   have HB := n2_; clear n0_ n1_ n2_
   refine start_ (n := 16) (S := fun w' => True) (ds := []) (bs 16 0) (by kernel_rfl) rfl rfl trivial (fun hHeld => ?_); refine with_tabW spec_l15Up.tab1 spec_l15Up.bits1 (fun HT_ HW_ => ?_)
   generalize w.drew = w5 at HO0 HK HB hHeld ⊢
   iterate 3 (refine psn_ HT_ ?_)
   iterate 12 (refine pun_ HT_ ?_)
   refine psn_ HT_ ?_
   refine done_ (done_of HT_.out (by kernel_rfl)) ?_
   try go_wp2
   go_meet
   case rel => exact ⟨_, (true), (by first | rfl | (simp; done) | (simp [*]; done)), H', ⟨by first | omega | exact Nat.le_refl _⟩, ⟨kr_ HO0⟩, ⟨by repeat (first | (with_reducible first | exact HK.out | apply Kept.alloc | apply Kept.drewN | apply Kept.drew) | exact HK.out)⟩, ⟨be_ HB⟩⟩
  ·rw [if_neg c4] at H
   have c4b0 : (a1 == 0) = false := beq_eq_false_iff_ne.mpr c4
   have c4b1 : (a1 != 0) = true := bne_iff_ne.mpr c4
   (first | rw [c4b0] | (simp only [i64_w, i32_w]; rw [c4b0]) | skip)
   by_cases c6 : 0 ≤ a1
   ·rw [if_pos c6] at H
    have c6b0 : decide (0 ≤ a1) = true := decide_eq_true c6
    clear c6
    by_cases c7 : a1 < (l0.length : Int)
    ·rw [if_pos c7] at H
     have c7b0 : decide (a1 < (l0.length : Int)) = true := decide_eq_true c7
     clear c7
     obtain ⟨ji8, hji8⟩ : ∃ j_ : Int, (wrap64 (Int.tdiv (wrap64 (a1 - 1)) 2)) = j_ := ⟨_, rfl⟩
     replace H : (if 0 ≤ (ji8) then (if (ji8) < (l0.length : Int) then ((spec_Ahead.f ((rd_T68 l0 a1).f0) ((rd_T68 l0 a1).f1) ((rd_T68 l0 (ji8)).f0) ((rd_T68 l0 (ji8)).f1)).bind fun t248 => (spec_l15Up.j0 k l0 a1 (!t248))) else (none)) else (none)) = some (r1, r2) := by first | (rw [hji8] at H; exact H) | (simp only [hji8] at H ⊢; exact H)
     have hji8w : (IntKind.i64.wrap (Int.tdiv (wrap64 (a1 - 1)) 2)) = ji8 := (i64_w _).trans hji8
     by_cases c9 : 0 ≤ (ji8)
     ·rw [if_pos c9] at H
      have c9b0 : decide (0 ≤ (ji8)) = true := decide_eq_true c9
      clear c9
      by_cases c10 : (ji8) < (l0.length : Int)
      ·rw [if_pos c10] at H
       have c10b0 : decide ((ji8) < (l0.length : Int)) = true := decide_eq_true c10
       clear c10
       replace H := Option.bind_eq_some_iff.mp H
       obtain ⟨t248, A110, H⟩ := H
       have A11 := Aside0.mk A110
       clear A110
       have H' := Aside0.mk H
       clear H
       try go_wp2
       have n0_ := Aside0.mk (Kd.R_drew HO0.out); have n1_ := Aside0.mk (Kept.drew HK.out); have n2_ := Aside0.mk (below_drew1 HB.out); clear HO0 HK HB; have HO0 := n0_
       have HK := n1_
       have HB := n2_; clear n0_ n1_ n2_
       obtain ⟨Ao13, co13, eo13⟩ := Kd.R_slice HO0.out
       (first | subst eo13 | (injection eo13 with f1_ f2_ f3_; have f4_ := f1_.symm; have f5_ := f3_.symm; clear f1_ f2_ f3_; subst f4_; subst f5_))
       have p246 : 0 ≤ (a1 : Int) := od_
       have q246 : a1 < (l0.length : Int) := od_
       obtain ⟨ad246, e246, hx246_0, hx246_1⟩ := at_T68 (Kd.R_reads' HO0.out).2.2 a1 p246 q246
       cases e246
       replace p246 := eq_true p246
       replace q246 := eq_true q246
       have p247 : 0 ≤ ((ji8) : Int) := od_
       have q247 : (ji8) < (l0.length : Int) := od_
       obtain ⟨ad247, e247, hx247_0, hx247_1⟩ := at_T68 (Kd.R_reads' HO0.out).2.2 (ji8) p247 q247
       obtain rfl : ad246 = ad247 := (by injection e247)
       replace p247 := eq_true p247
       replace q247 := eq_true q247
       refine start_ (n := 16) (S := fun w' => w'.cell? (ad246.add ((a1).toNat * 2)) = some (.int .i64 ((rd_T68 l0 a1).f0)) ∧ w'.cell? ⟨(ad246.add ((a1).toNat * 2)).block, (ad246.add ((a1).toNat * 2)).off + 1, none⟩ = some (.int .i64 ((rd_T68 l0 a1).f1)) ∧ w'.cell? (ad246.add (((ji8)).toNat * 2)) = some (.int .i64 ((rd_T68 l0 (ji8)).f0)) ∧ w'.cell? ⟨(ad246.add (((ji8)).toNat * 2)).block, (ad246.add (((ji8)).toNat * 2)).off + 1, none⟩ = some (.int .i64 ((rd_T68 l0 (ji8)).f1))) (ds := []) (bs 16 0) (by kernel_rfl) rfl rfl ⟨hx246_0, hx246_1, hx247_0, hx247_1⟩ (fun hHeld => ?_); refine with_tabW spec_l15Up.tab1 spec_l15Up.bits1 (fun HT_ HW_ => ?_)
       generalize w.drew = w12 at HO0 HK HB hx246_0 hx246_1 hx247_0 hx247_1 hHeld ⊢
       iterate 6 (refine psn_ HT_ ?_)
       refine ps_ 7 13 (bm 16 191) HT_ ?_
       refine ps_ 8 14 (bm 16 447) HT_ ?_
       refine ps_ 9 15 (bm 16 959) HT_ ?_
       refine ps_ 10 16 (bm 16 1983) HT_ ?_
       refine ps_ 11 17 (bm 16 4031) HT_ ?_
       refine tk_ 6 12 (bs 16 12) HT_ HW_ hHeld ?_
       refine tkn_ HT_ HW_ hHeld ?_
       refine on_ 13 (some 19) (bs 16 14) HT_ (fun K hK => ?_)
       refine goes_ Try.func46 (by kernel_rfl) rfl #[.agg #[.int .i64 ((rd_T68 l0 a1).f0), .int .i64 ((rd_T68 l0 a1).f1)], .agg #[.int .i64 ((rd_T68 l0 (ji8)).f0), .int .i64 ((rd_T68 l0 (ji8)).f1)]] (by rfl) rfl rfl (by (try simp only [List.map_toArray, List.map_cons, List.map_nil]); first | done | (simp only [hji8]; rfl) | rfl | (simp only [List.length_drop, List.length_take]; rfl)) ?_
       with_reducible refine (spec_Ahead.calls ((rd_T68 l0 a1).f0) ((rd_T68 l0 a1).f1) ((rd_T68 l0 (ji8)).f0) ((rd_T68 l0 (ji8)).f1) t248 _ A11.out).mono ?_
       rintro e w14 ⟨rfl, hb⟩
       have HS0_ := hc_ hb hHeld.1
       have HS1_ := hc_ hb hHeld.2.1
       have HS2_ := hc_ hb hHeld.2.2.1
       have HS3_ := hc_ hb hHeld.2.2.2
       refine ⟨_, rfl, ?_⟩
       have n0_ := Aside0.mk (Kd.R_below (kr_ HO0) hb)
       have n1_ := Aside0.mk (Kept.below (S := (fun k_ => P0_ k_)) (by repeat (first | (with_reducible first | exact HK.out | apply Kept.alloc | apply Kept.drewN | apply Kept.drew) | exact HK.out)) hb)
       have n2_ := Aside0.mk (below_step (be_ HB) hb); clear HO0 HK HB; have HO0 := n0_
       have HK := n1_
       have HB := n2_; clear n0_ n1_ n2_; (try clear hb); (try clear hb2); (try clear hk); (try clear hi)
       refine hK.out _ _ ⟨HS0_, HS1_, HS2_, HS3_⟩ (fun hHeld => ?_)
       clear hK K
       refine norm_ (a' := ?_) ?_ ?_
       rotate_left
       ·show Act.put _ (some 19) _ = _
        simp only [Act.put, ls0_, ls1_, ls2_, i64_w, i32_w]
        rfl
       iterate 2 (refine psn_ HT_ ?_)
       refine done_ (done_of HT_.out (by kernel_rfl)) ?_
       try go_wp2
       (try subst hji8)
       go_meet
       case rel => exact ⟨_, (!t248), (by first | rfl | (simp; done) | (simp [*]; done)), H', ⟨by first | omega | exact Nat.le_refl _⟩, ⟨kr_ HO0⟩, ⟨by repeat (first | (with_reducible first | exact HK.out | apply Kept.alloc | apply Kept.drewN | apply Kept.drew) | exact HK.out)⟩, ⟨be_ HB⟩⟩
      ·rw [if_neg c10] at H
       exact absurd H (by simp)
     ·rw [if_neg c9] at H
      exact absurd H (by simp)
    ·rw [if_neg c7] at H
     exact absurd H (by simp)
   ·rw [if_neg c6] at H
    exact absurd H (by simp)
 case rest =>
  clear HC3; (try clear c1); (try clear p2); (try clear q2); (try clear hx2); (try clear c4); (try clear c4b0); (try clear c4b1); (try clear c6); (try clear c6b0); (try clear p6); (try clear c7); (try clear c7b0); (try clear c9); (try clear c9b0); (try clear c10); (try clear c10b0); (try clear c13); (try clear hx246_0); (try clear hx246_1); (try clear hx247_0); (try clear hx247_1); (try clear p246); (try clear p247); (try clear q246); (try clear q247)
  obtain ⟨kq, x21_2, rfl, HA, HJ2, HO_0, HK, HB⟩ := hcut
  cases kq with
  | zero => exact absurd HA.out (by simp [spec_l15Up.j0])
  | succ kj2 =>
   have H := HA.out
   clear HA
   simp only [spec_l15Up.j0] at H
   by_cases c15 : x21_2 = true
   ·subst c15
    rw [if_pos rfl] at H
    simp only [Option.some.injEq, Prod.mk.injEq] at H
    obtain ⟨rfl, rfl⟩ := H
    go_wp2
    go_ret2
    exact ⟨_, by first | rfl | (simp [errW_none, errW_some] <;> rfl) | (simp [*, errW_none, errW_some] <;> rfl), by (with_reducible repeat (first | apply Kd.R_alloc | apply Kd.R_drewN | apply Kd.R_drew)); exact HO_0.out, by repeat (first | (with_reducible first | exact HB.out | apply below_alloc | apply pw_below_drewN | apply below_drew1) | exact HB.out), by repeat (first | (with_reducible first | exact HK.out | apply Kept.alloc | apply Kept.drewN | apply Kept.drew) | exact HK.out)⟩
   ·replace c15 := Bool.eq_false_iff.mpr c15
    subst c15
    rw [if_neg (show ¬ (false = true) by decide)] at H
    replace H := Option.bind_eq_some_iff.mp H
    obtain ⟨t249, A160, H⟩ := H
    have A16 := Aside0.mk A160
    clear A160
    replace H := Option.bind_eq_some_iff.mp H
    obtain ⟨⟨t252, t255⟩, A170, H⟩ := H
    have A17 := Aside0.mk A170
    clear A170
    simp only [Option.some.injEq, Prod.mk.injEq] at H
    obtain ⟨rfl, rfl⟩ := H
    obtain ⟨Ao18, co18, eo18⟩ := Kd.R_slice HO_0.out
    subst eo18
    go_wp2_with (first | ((with_reducible refine gc_ 153 rfl ?_); refine gl_ 29 Try.func153 #[.slice Ao18 l0.length co18, .int .i64 a1, .int .i64 (wrap64 (Int.tdiv (wrap64 (a1 - 1)) 2))] ?_; (with_reducible refine (spec_l15Swap.calls _ _ l0 a1 (wrap64 (Int.tdiv (wrap64 (a1 - 1)) 2)) t249 _ ?side1 ?side2 A16.out).mono ?_); (case side1 => exact cr_ HO_0); (case side2 => exact (Kd.R_reads' HO_0.out).2.1); rintro e w19 ⟨v250, rfl, ho0, hb⟩; refine ⟨_, rfl, ?_⟩; have HO251 := Aside0.mk (Kd.R_lower (Kd.R_new' (Kd.R_newM (M := fun k_ => (P0_ k_ ∨ w.heap.size ≤ k_)) ho0 (by first | exact HK.out.1 | exact (show Kept w _ (fun k_ => P0_ k_) from by repeat (first | (with_reducible first | exact HK.out | apply Kept.alloc | apply Kept.drewN | apply Kept.drew) | exact HK.out)).1) (fun k_ h_ => .inr h_)) (Kd.R_lt (kr_ HO_0))) (below_size (be_ HB))); replace HO_0 := Aside0.mk (Kd.R_elder' (kr_ HO_0) (Kd.R_base ho0) hb); replace HK := Aside0.mk (Kept.below (S := (fun k_ => P0_ k_)) (by repeat (first | (with_reducible first | exact HK.out | apply Kept.alloc | apply Kept.drewN | apply Kept.drew) | exact HK.out)) hb); replace HB := Aside0.mk (below_step (be_ HB) hb); (try clear hb); (try clear hb2); (try clear hk); (try clear hi); (try clear ho0); obtain ⟨Ao20, co20, eo20⟩ := Kd.R_slice HO251.out; subst eo20) | ((with_reducible refine gc_ 131 rfl ?_); refine gl_ 33 Try.func131 #[.slice Ao20 t249.length co20, .int .i64 (wrap64 (Int.tdiv (wrap64 (a1 - 1)) 2))] ?_; (with_reducible refine (ih kj2 (by have := HJ2.out; omega) (fun k_ => some k_ = (.slice Ao20 t249.length co20 : Value).ownBlock) (.slice Ao20 t249.length co20) t249 (wrap64 (Int.tdiv (wrap64 (a1 - 1)) 2)) t252 t255 w0 _ ?side1 ?side2 A17.out).mono ?_); (case side1 => exact be_ HB); (case side2 => exact Kd.R_tight rfl HO251.out); rintro e w21 ⟨v253, rfl, ho0, hb, hkp⟩; refine ⟨_, rfl, ?_⟩; have HO254 := Aside0.mk (Kd.R_mono (ok' := fun k_ => (P0_ k_ ∨ w.heap.size ≤ k_) ∧ some k_ ≠ (.slice Ao18 l0.length co18 : Value).ownBlock) ho0 (fun k_ hk_ => by first | exact ⟨Or.elim hk_ (fun hs_ => (HO251.out.1 k_ (hs_).symm).1.1) (fun hn_ => (.inr (Nat.le_trans (by first | exact HK.out.1 | exact (show Kept w _ (fun k_ => P0_ k_) from by repeat (first | (with_reducible first | exact HK.out | apply Kept.alloc | apply Kept.drewN | apply Kept.drew) | exact HK.out)).1) hn_))), Or.elim hk_ (fun hs_ => fun e_ => (((HO_0.out).1 k_ e_.symm).2) hs_) (fun hn_ => (Kd.fresh' (Kd.R_lt (kr_ HO_0)) k_ hn_))⟩ | grind)); replace HO_0 := Aside0.mk (Kd.R_mono (ok' := fun k_ => (P0_ k_ ∨ w.heap.size ≤ k_) ∧ some k_ ≠ (v253 : Value).ownBlock) (Kd.R_keptB (HO_0.out) hkp (fun k_ hk_ hs_ => by first | exact (hk_.2) hs_ | grind)) (fun k_ hk_ => by first | exact ⟨hk_.1.1, fun e_ => Or.elim (ho0.1 k_ e_.symm) (fun hs_ => hk_.2.1 hs_) (fun hn_ => Nat.not_le.2 hk_.2.2 hn_)⟩ | grind)); replace HK := Aside0.mk (Kept.then_ (S := (fun k_ => P0_ k_)) (by repeat (first | (with_reducible first | exact HK.out | apply Kept.alloc | apply Kept.drewN | apply Kept.drew) | exact HK.out)) hkp (fun k_ hs_ => (fun e_ => (HO251.out.1 k_ e_.symm).1.1) hs_)); replace HB := Aside0.mk (hb); clear HO251; (try clear hb); (try clear hkp); (try clear ho0)))
    go_ret2
    exact ⟨_, by first | rfl | (simp [errW_none, errW_some] <;> rfl) | (simp [*, errW_none, errW_some] <;> rfl), by (with_reducible repeat (first | apply Kd.R_alloc | apply Kd.R_drewN | apply Kd.R_drew)); exact Kd.R_mono HO254.out (fun _ hk => by first | exact hk.1 | grind), by repeat (first | (with_reducible first | exact HB.out | apply below_alloc | apply pw_below_drewN | apply below_drew1) | exact HB.out), by repeat (first | (with_reducible first | exact HK.out | apply Kept.alloc | apply Kept.drewN | apply Kept.drew) | exact HK.out)⟩

/-! ### spec_HeapPush: function 155 -/
def spec_HeapPush.j0 : Nat → Bool → List (S68) → Int → Int → Option ((List (S68)) × Int)
  | 0, _, _, _, _ => none
  | k + 1, x14, x257000, x258000, x258001 => if x14 = true then (some (([] : List (S68)), 1)) else ((spec_l15At.f k x257000 x258001).bind fun t261 => (if t261 ≥ 0 then (some (([] : List (S68)), 2)) else (if (x257000.length : Int) = 64 then (some (([] : List (S68)), 3)) else ((some (([] : List (S68)) : List (S68))).bind fun y262 => (if y262.length + x257000.length < 8796093022208 then ((some (y262 ++ x257000 : List (S68))).bind fun y265 => ((some (([(⟨x258000, x258001⟩ : S68)] : List (S68)) : List (S68))).bind fun y268 => (if y265.length + y268.length < 8796093022208 then ((some (y265 ++ y268 : List (S68))).bind fun y271 => ((spec_l15Up.f k y271 (wrap64 ((y271.length : Int) - 1))).bind fun bt274 => (some (bt274.1, 0)))) else (none)))) else (none))))))
def spec_HeapPush.f (k : Nat) (l0_0 : List (S68)) (a1_0 : Int) (a1_1 : Int) : Option ((List (S68)) × Int) := (spec_HeapOk.f k l0_0).bind fun t259 => (if t259 = true then ((spec_ItemOk.f a1_0 a1_1).bind fun t260 => (spec_HeapPush.j0 k (!t260) l0_0 a1_0 a1_1)) else (spec_HeapPush.j0 k true l0_0 a1_0 a1_1))
theorem spec_HeapPush.mono_l : ∀ k, (∀ y0 y1 y2 y3, LeO (spec_HeapPush.j0 k y0 y1 y2 y3) (spec_HeapPush.j0 (k + 1) y0 y1 y2 y3))
 | 0 => fun _ _ _ _ r h => by simp [spec_HeapPush.j0] at h
 | k + 1 => by
  have ih0 := spec_HeapPush.mono_l k
  ·intro y0 y1 y2 y3
   unfold spec_HeapPush.j0
   repeat' (first | (with_reducible exact ih0 ..) | (with_reducible exact spec_HeapOk.mono _ _) | (with_reducible exact spec_l15At.mono _ _ _) | (with_reducible exact spec_l15Up.mono _ _ _) | (with_reducible exact LeO.refl _) | (with_reducible exact LeO.none _) | (with_reducible refine LeO.ite ?_ ?_) | (with_reducible refine LeO.bind ?_ (fun _ => ?_)) | exact ih0 .. | exact spec_HeapOk.mono _ _ | exact spec_l15At.mono _ _ _ | exact spec_l15Up.mono _ _ _ | exact LeO.none _ | refine LeO.ite ?_ ?_ | refine LeO.bind ?_ (fun _ => ?_))
theorem spec_HeapPush.mono : ∀ a0 a1 a2 k, LeO (spec_HeapPush.f k a0 a1 a2) (spec_HeapPush.f (k + 1) a0 a1 a2) := by
 intro a0 a1 a2 k
 have ih0 := spec_HeapPush.mono_l k
 unfold spec_HeapPush.f
 repeat' (first | (with_reducible exact ih0 ..) | (with_reducible exact spec_HeapOk.mono _ _) | (with_reducible exact spec_l15At.mono _ _ _) | (with_reducible exact spec_l15Up.mono _ _ _) | (with_reducible exact LeO.refl _) | (with_reducible exact LeO.none _) | (with_reducible refine LeO.ite ?_ ?_) | (with_reducible refine LeO.bind ?_ (fun _ => ?_)) | exact ih0 .. | exact spec_HeapOk.mono _ _ | exact spec_l15At.mono _ _ _ | exact spec_l15Up.mono _ _ _ | exact LeO.none _ | refine LeO.ite ?_ ?_ | refine LeO.bind ?_ (fun _ => ?_))
def spec_HeapPush.T7 : Bool × List (List Nat × List Nat) := (true, [([], []), ([], []), ([1], [1]), ([0, 2], [0, 2]), ([], []), ([4], [4]), ([3, 5, 3], [3, 5]), ([6, 6, 0, 1, 2, 3, 4, 5, 6], [6])])
def spec_HeapPush.B7 : List Nat := [0, 0, 2, 7, 0, 16, 63, 127]
theorem spec_HeapPush.tab7 : rtab .any (opsOf Try.f155 7) = spec_HeapPush.T7 := by kernel_rfl
theorem spec_HeapPush.bits7 : waitsOk spec_HeapPush.T7.2 spec_HeapPush.B7 = true := by kernel_rfl
set_option maxHeartbeats 8000000 in
set_option maxRecDepth 100000 in
theorem spec_HeapPush.calls (k : Nat) (A0_0 : Option Addr) (c0_0 : Nat) (l0_0 : List (S68)) (a1_0 : Int) (a1_1 : Int) (r1 : List (S68)) (r2 : Int) (w : World) (hr0_0 : Kd.C k68 w A0_0 l0_0.length l0_0) (hc0_0 : l0_0.length ≤ c0_0) (h : spec_HeapPush.f k l0_0 a1_0 a1_1 = some (r1, r2)) :
  Calls Try.prog 155 #[.agg #[.slice A0_0 l0_0.length c0_0], .agg #[.int .i64 a1_0, .int .i64 a1_1]] w fun e w' => ∃ v0_ : Value, e = .returned (.tuple #[.agg #[v0_], .int .i64 r2]) ∧ Kd.R k68 68 w' w.heap.size (fun _ => True) v0_ r1 ∧ Below w.heap.size w w' := by
 have hu29 := Try.underlying29; have hu68 := Try.underlying68
 have HR0_0 := Aside0.mk hr0_0
 have HC0_0 := Aside0.mk hc0_0
 clear hr0_0 hc0_0; have HB := Aside0.mk (Below.refl w.heap.size w)
 have H := h
 clear h
 unfold spec_HeapPush.f at H
 have HC3 := Aside0.mk H
 clear H
 go_enter Try.func155, Try.ntmps155
 go_upto_region 1 with (first | ((with_reducible refine gd_ 2 rfl ?_); refine bv_ 2 #[.slice A0_0 l0_0.length c0_0] 29 ?_; intro gb256 hg w4 hbox hb; have BK256 := Aside0.mk (hbox); have GW256 := gw_ HB hg; have GE256 := gw_ HB hg; replace HB := Aside0.mk (below_step (be_ HB) hb); clear hb hbox hg) | ((with_reducible refine gd_ 3 rfl ?_); refine bv_ 3 #[.int .i64 a1_0, .int .i64 a1_1] 68 ?_; intro gb257 hg w5 hbox hb; have BK257 := Aside0.mk (hbox); have GW257 := gw_ HB hg; have GE257 := gw_ HB hg; replace HB := Aside0.mk (below_step (bf_ HB) hb); have NB256_257 := nl_ BK256 hg; have NB257_256 := ng_ BK256 hg; replace BK256 := bb_ BK256 hb; clear hb hbox hg) | ((with_reducible refine gd_ 4 rfl ?_); refine bv_ 4 #[.slice none 0 0] 29 ?_; intro gb258 hg w6 hbox hb; have BK258 := Aside0.mk (hbox); have GW258 := gw_ HB hg; have GE258 := gw_ HB hg; replace HB := Aside0.mk (below_step (bf_ HB) hb); have NB256_258 := nl_ BK256 hg; have NB258_256 := ng_ BK256 hg; replace BK256 := bb_ BK256 hb; have NB257_258 := nl_ BK257 hg; have NB258_257 := ng_ BK257 hg; replace BK257 := bb_ BK257 hb; clear hb hbox hg))
 (try simp only [Act.put, ls0_, ls1_, ls2_])
 go_cut [14] (fun v14 wc => ∃ (kq : Nat) (x14_2 : Bool), v14 = .bool x14_2 ∧ Aside0 (spec_HeapPush.j0 kq x14_2 l0_0 a1_0 a1_1 = some (r1, r2)) ∧ Aside0 (kq ≤ k) ∧ Aside0 (wc.heap[gb256]? = some (.cells #[(.slice A0_0 l0_0.length c0_0)] 29 (0, 0))) ∧ Aside0 (wc.heap[gb257]? = some (.cells #[.int .i64 a1_0, .int .i64 a1_1] 68 (0, 0))) ∧ Aside0 (wc.heap[gb258]? = some (.cells #[(.slice none 0 0)] 29 (0, 0))) ∧ Aside0 (Below w.heap.size w wc))
 case first =>
  have H := HC3.out
  clear HC3
  replace H := Option.bind_eq_some_iff.mp H
  obtain ⟨t259, A70, H⟩ := H
  have A7 := Aside0.mk A70
  clear A70
  by_cases c8 : t259 = true
  ·subst c8
   rw [if_pos rfl] at H
   replace H := Option.bind_eq_some_iff.mp H
   obtain ⟨t260, A90, H⟩ := H
   have A9 := Aside0.mk A90
   clear A90
   have H' := Aside0.mk H
   clear H; have hnb10 := NB256_257.out; have hnc10 := NB257_256.out; have hnb11 := NB256_258.out; have hnc11 := NB258_256.out; obtain ⟨hcz12_0, hfz12_0⟩ := bz1_ BK256
   go_wp2_with (first | ((with_reducible refine gc_ 40 rfl ?_); refine gl_ 8 Try.func40 #[.agg #[.slice A0_0 l0_0.length c0_0]] ?_; (with_reducible refine (spec_HeapOk.calls k _ _ l0_0 true _ ?side1 ?side2 A7.out).mono ?_); (case side1 => repeat (first | exact (Kd.C_below HR0_0.out HB.out) | (with_reducible refine Kd.C_alloc ?_ _) | (with_reducible refine Kd.C_drewN ?_ _) | (with_reducible refine Kd.C_drew ?_))); (case side2 => exact HC0_0.out); rintro e w13 ⟨rfl, hb⟩; refine ⟨_, rfl, ?_⟩; replace BK256 := bb_ BK256 hb; replace BK257 := bb_ BK257 hb; replace BK258 := bb_ BK258 hb; replace HB := Aside0.mk (below_step (bf_ HB) hb); (try clear hb); (try clear hb2); (try clear hk); (try clear hi); have hnb14 := NB257_258.out; have hnc14 := NB258_257.out; obtain ⟨hcz15_0, hcz15_1, hfz15_0, hfz15_1⟩ := bz2_ BK257) | (go_at_call 100; (with_reducible refine (spec_ItemOk.calls a1_0 a1_1 t260 _ A9.out).mono ?_); rintro e w16 ⟨rfl, hb⟩; replace BK256 := bb_ BK256 hb; replace BK257 := bb_ BK257 hb; replace BK258 := bb_ BK258 hb; replace HB := Aside0.mk (below_step (bf_ HB) hb); (try clear hb); (try clear hb2); (try clear hk); (try clear hi)))
   go_meet
   case rel => exact ⟨_, (!t260), (by first | rfl | (simp; done) | (simp [*]; done)), H', ⟨by first | omega | exact Nat.le_refl _⟩, ⟨bk_ BK256⟩, ⟨bk_ BK257⟩, ⟨bk_ BK258⟩, ⟨bf_ HB⟩⟩
  ·replace c8 := Bool.eq_false_iff.mpr c8
   subst c8
   rw [if_neg (show ¬ (false = true) by decide)] at H
   have H' := Aside0.mk H
   clear H; have hnb17 := NB256_257.out; have hnc17 := NB257_256.out; have hnb18 := NB256_258.out; have hnc18 := NB258_256.out; obtain ⟨hcz19_0, hfz19_0⟩ := bz1_ BK256
   go_wp2_with (first | ((with_reducible refine gc_ 40 rfl ?_); refine gl_ 8 Try.func40 #[.agg #[.slice A0_0 l0_0.length c0_0]] ?_; (with_reducible refine (spec_HeapOk.calls k _ _ l0_0 false _ ?side1 ?side2 A7.out).mono ?_); (case side1 => repeat (first | exact (Kd.C_below HR0_0.out HB.out) | (with_reducible refine Kd.C_alloc ?_ _) | (with_reducible refine Kd.C_drewN ?_ _) | (with_reducible refine Kd.C_drew ?_))); (case side2 => exact HC0_0.out); rintro e w20 ⟨rfl, hb⟩; refine ⟨_, rfl, ?_⟩; replace BK256 := bb_ BK256 hb; replace BK257 := bb_ BK257 hb; replace BK258 := bb_ BK258 hb; replace HB := Aside0.mk (below_step (bf_ HB) hb); (try clear hb); (try clear hb2); (try clear hk); (try clear hi)))
   go_meet
   case rel => exact ⟨_, (true), (by first | rfl | (simp; done) | (simp [*]; done)), H', ⟨by first | omega | exact Nat.le_refl _⟩, ⟨bk_ BK256⟩, ⟨bk_ BK257⟩, ⟨bk_ BK258⟩, ⟨bf_ HB⟩⟩
 case rest =>
  clear HC3; (try clear c1); (try clear p2); (try clear c4); (try clear c8); (try clear c10); (try clear c11); (try clear c14); (try clear c15); (try clear c17); (try clear c18); (try clear hcz12_0 hfz12_0); (try clear hcz15_0 hcz15_1 hfz15_0 hfz15_1); (try clear hcz19_0 hfz19_0)
  obtain ⟨kq, x14_2, rfl, HA, HJ2, BK256, BK257, BK258, HB⟩ := hcut
  cases kq with
  | zero => exact absurd HA.out (by simp [spec_HeapPush.j0])
  | succ kj2 =>
   have H := HA.out
   clear HA
   simp only [spec_HeapPush.j0] at H
   by_cases c21 : x14_2 = true
   ·subst c21
    rw [if_pos rfl] at H
    simp only [Option.some.injEq, Prod.mk.injEq] at H
    obtain ⟨rfl, rfl⟩ := H
    have hnb22 := NB258_256.out; have hnc22 := NB256_258.out; have hnb23 := NB258_257.out; have hnc23 := NB257_258.out; obtain ⟨hcz24_0, hfz24_0⟩ := bz1_ BK258
    go_wp2
    refine bodyPost_ret (results_ct rfl _ _ gb258 29 #[.slice none 0 0] (0, 0) _ rfl (by (with_reducible repeat (first | refine blk_drewN ?_ _ | refine blk_drew ?_ | refine blk_alloc ?_ _)); refine blk_put (cs := #[.slice none 0 0]) ?_ 0 _ rfl; exact bk_ BK258) Try.underlying29 rfl (by kernel_rfl)) rfl ?_
    exact ⟨_, by first | rfl | (simp [errW_none, errW_some] <;> rfl) | (simp [*, errW_none, errW_some] <;> rfl), by first | exact Kd.R_nil _ _ _ _ _ | exact Kd.N_nil _ _ _ _ _ | exact Kd.V_nil _ _ _ _ _ | exact Kd.Q_nil _ _ _ _ _ | exact Kd.S_nil _ _ _ _ _, bf_ HB⟩
   ·replace c21 := Bool.eq_false_iff.mpr c21
    subst c21
    rw [if_neg (show ¬ (false = true) by decide)] at H
    replace H := Option.bind_eq_some_iff.mp H
    obtain ⟨t261, A250, H⟩ := H
    have A25 := Aside0.mk A250
    clear A250
    by_cases c26 : t261 ≥ 0
    ·rw [if_pos c26] at H
     have c26b0 : decide (0 ≤ t261) = true := decide_eq_true c26
     clear c26
     simp only [Option.some.injEq, Prod.mk.injEq] at H
     obtain ⟨rfl, rfl⟩ := H
     have hnb27 := NB256_257.out; have hnc27 := NB257_256.out; have hnb28 := NB256_258.out; have hnc28 := NB258_256.out; obtain ⟨hcz29_0, hfz29_0⟩ := bz1_ BK256; have hnb30 := NB257_258.out; have hnc30 := NB258_257.out; obtain ⟨hcz31_0, hcz31_1, hfz31_0, hfz31_1⟩ := bz2_ BK257
     go_wp2_with (first | ((with_reducible refine gc_ 93 rfl ?_); refine gl_ 20 Try.func93 #[.slice A0_0 l0_0.length c0_0, .int .i64 a1_1] ?_; (with_reducible refine (spec_l15At.calls kj2 _ _ l0_0 a1_1 t261 _ ?side1 ?side2 A25.out).mono ?_); (case side1 => repeat (first | exact (Kd.C_below HR0_0.out HB.out) | (with_reducible refine Kd.C_alloc ?_ _) | (with_reducible refine Kd.C_drewN ?_ _) | (with_reducible refine Kd.C_drew ?_))); (case side2 => exact HC0_0.out); rintro e w' ⟨rfl, ⟨nd, rfl⟩⟩; refine ⟨_, rfl, ?_⟩; (try (rw [drewN_self wc]; generalize hq_ : World.drewN wc _ = wc; have n0_ : Aside0 (wc.heap[gb256]? = some (.cells #[.slice A0_0 l0_0.length c0_0] 29 (0, 0))) := ⟨by rw [← hq_]; exact (bk_ BK256)⟩; have n1_ : Aside0 (wc.heap[gb257]? = some (.cells #[.int .i64 a1_0, .int .i64 a1_1] 68 (0, 0))) := ⟨by rw [← hq_]; exact (bk_ BK257)⟩; have n2_ : Aside0 (wc.heap[gb258]? = some (.cells #[.slice none 0 0] 29 (0, 0))) := ⟨by rw [← hq_]; exact (bk_ BK258)⟩; have n3_ : Aside0 (Below w.heap.size w wc) := ⟨by rw [← hq_]; exact (bf_ HB)⟩; clear BK256 BK257 BK258 HB hq_; have BK256 := n0_; have BK257 := n1_; have BK258 := n2_; have HB := n3_; clear n0_ n1_ n2_ n3_; have hcs256_0 := bc_ BK256 0 (.slice A0_0 l0_0.length c0_0) rfl; have hfs256_0 := blk_frozen BK256.out 0; have hcs257_0 := bc_ BK257 0 (.int .i64 a1_0) rfl; have hfs257_0 := blk_frozen BK257.out 0; have hcs257_1 := bc_ BK257 1 (.int .i64 a1_1) rfl; have hfs257_1 := blk_frozen BK257.out 1; have hcs258_0 := bc_ BK258 0 (.slice none 0 0) rfl; have hfs258_0 := blk_frozen BK258.out 0)); obtain ⟨hcz32_0, hfz32_0⟩ := bz1_ BK258))
     refine bodyPost_ret (results_ct rfl _ _ gb258 29 #[.slice none 0 0] (0, 0) _ rfl (by (with_reducible repeat (first | refine blk_drewN ?_ _ | refine blk_drew ?_ | refine blk_alloc ?_ _)); refine blk_put (cs := #[.slice none 0 0]) ?_ 0 _ rfl; exact bk_ BK258) Try.underlying29 rfl (by kernel_rfl)) rfl ?_
     exact ⟨_, by first | rfl | (simp [errW_none, errW_some] <;> rfl) | (simp [*, errW_none, errW_some] <;> rfl), by first | exact Kd.R_nil _ _ _ _ _ | exact Kd.N_nil _ _ _ _ _ | exact Kd.V_nil _ _ _ _ _ | exact Kd.Q_nil _ _ _ _ _ | exact Kd.S_nil _ _ _ _ _, bf_ HB⟩
    ·rw [if_neg c26] at H
     have c26b0 : decide (0 ≤ t261) = false := decide_eq_false c26
     clear c26
     by_cases c33 : (l0_0.length : Int) = 64
     ·rw [if_pos c33] at H
      have c33b0 : ((l0_0.length : Int) == 64) = true := beq_iff_eq.mpr c33
      have c33b1 : ((l0_0.length : Int) != 64) = false := bne_eq_false_iff_eq.mpr c33
      clear c33
      simp only [Option.some.injEq, Prod.mk.injEq] at H
      obtain ⟨rfl, rfl⟩ := H
      have hnb34 := NB256_257.out; have hnc34 := NB257_256.out; have hnb35 := NB256_258.out; have hnc35 := NB258_256.out; obtain ⟨hcz36_0, hfz36_0⟩ := bz1_ BK256; have hnb37 := NB257_258.out; have hnc37 := NB258_257.out; obtain ⟨hcz38_0, hcz38_1, hfz38_0, hfz38_1⟩ := bz2_ BK257
      go_wp2_with (first | ((with_reducible refine gc_ 93 rfl ?_); refine gl_ 20 Try.func93 #[.slice A0_0 l0_0.length c0_0, .int .i64 a1_1] ?_; (with_reducible refine (spec_l15At.calls kj2 _ _ l0_0 a1_1 t261 _ ?side1 ?side2 A25.out).mono ?_); (case side1 => repeat (first | exact (Kd.C_below HR0_0.out HB.out) | (with_reducible refine Kd.C_alloc ?_ _) | (with_reducible refine Kd.C_drewN ?_ _) | (with_reducible refine Kd.C_drew ?_))); (case side2 => exact HC0_0.out); rintro e w' ⟨rfl, ⟨nd, rfl⟩⟩; refine ⟨_, rfl, ?_⟩; (try (rw [drewN_self wc]; generalize hq_ : World.drewN wc _ = wc; have n0_ : Aside0 (wc.heap[gb256]? = some (.cells #[.slice A0_0 l0_0.length c0_0] 29 (0, 0))) := ⟨by rw [← hq_]; exact (bk_ BK256)⟩; have n1_ : Aside0 (wc.heap[gb257]? = some (.cells #[.int .i64 a1_0, .int .i64 a1_1] 68 (0, 0))) := ⟨by rw [← hq_]; exact (bk_ BK257)⟩; have n2_ : Aside0 (wc.heap[gb258]? = some (.cells #[.slice none 0 0] 29 (0, 0))) := ⟨by rw [← hq_]; exact (bk_ BK258)⟩; have n3_ : Aside0 (Below w.heap.size w wc) := ⟨by rw [← hq_]; exact (bf_ HB)⟩; clear BK256 BK257 BK258 HB hq_; have BK256 := n0_; have BK257 := n1_; have BK258 := n2_; have HB := n3_; clear n0_ n1_ n2_ n3_; have hcs256_0 := bc_ BK256 0 (.slice A0_0 l0_0.length c0_0) rfl; have hfs256_0 := blk_frozen BK256.out 0; have hcs257_0 := bc_ BK257 0 (.int .i64 a1_0) rfl; have hfs257_0 := blk_frozen BK257.out 0; have hcs257_1 := bc_ BK257 1 (.int .i64 a1_1) rfl; have hfs257_1 := blk_frozen BK257.out 1; have hcs258_0 := bc_ BK258 0 (.slice none 0 0) rfl; have hfs258_0 := blk_frozen BK258.out 0)); obtain ⟨hcz39_0, hfz39_0⟩ := bz1_ BK258))
      refine bodyPost_ret (results_ct rfl _ _ gb258 29 #[.slice none 0 0] (0, 0) _ rfl (by (with_reducible repeat (first | refine blk_drewN ?_ _ | refine blk_drew ?_ | refine blk_alloc ?_ _)); refine blk_put (cs := #[.slice none 0 0]) ?_ 0 _ rfl; exact bk_ BK258) Try.underlying29 rfl (by kernel_rfl)) rfl ?_
      exact ⟨_, by first | rfl | (simp [errW_none, errW_some] <;> rfl) | (simp [*, errW_none, errW_some] <;> rfl), by first | exact Kd.R_nil _ _ _ _ _ | exact Kd.N_nil _ _ _ _ _ | exact Kd.V_nil _ _ _ _ _ | exact Kd.Q_nil _ _ _ _ _ | exact Kd.S_nil _ _ _ _ _, bf_ HB⟩
     ·rw [if_neg c33] at H
      have c33b0 : ((l0_0.length : Int) == 64) = false := beq_eq_false_iff_ne.mpr c33
      have c33b1 : ((l0_0.length : Int) != 64) = true := bne_iff_ne.mpr c33
      obtain ⟨y262, hy262⟩ : ∃ y_ : List (S68), y_ = (([] : List (S68))) := ⟨_, rfl⟩
      replace H : (if y262.length + l0_0.length < 8796093022208 then ((some (y262 ++ l0_0 : List (S68))).bind fun y265 => ((some (([(⟨a1_0, a1_1⟩ : S68)] : List (S68)) : List (S68))).bind fun y268 => (if y265.length + y268.length < 8796093022208 then ((some (y265 ++ y268 : List (S68))).bind fun y271 => ((spec_l15Up.f kj2 y271 (wrap64 ((y271.length : Int) - 1))).bind fun bt274 => (some (bt274.1, 0)))) else (none)))) else (none)) = some (r1, r2) := by first | (rw [hy262]; with_reducible exact H) | (have H2_ := (Option.bind_some _ _).symm.trans H; rw [hy262]; with_reducible exact H2_) | (have H2_ := (Option.bind_some _ _).symm.trans H; with_reducible exact H2_) | with_reducible exact H | (rw [hy262]; exact H) | exact H
      have Ny262 := Aside0.mk hy262
      clear hy262
      by_cases c40 : y262.length + l0_0.length < 8796093022208
      ·rw [if_pos c40] at H
       have LMc40 := Aside0.mk c40
       clear c40
       obtain ⟨y265, hy265⟩ : ∃ y_ : List (S68), y_ = (y262 ++ l0_0) := ⟨_, rfl⟩
       replace H : ((some (([(⟨a1_0, a1_1⟩ : S68)] : List (S68)) : List (S68))).bind fun y268 => (if y265.length + y268.length < 8796093022208 then ((some (y265 ++ y268 : List (S68))).bind fun y271 => ((spec_l15Up.f kj2 y271 (wrap64 ((y271.length : Int) - 1))).bind fun bt274 => (some (bt274.1, 0)))) else (none))) = some (r1, r2) := by first | (rw [hy265]; with_reducible exact H) | (have H2_ := (Option.bind_some _ _).symm.trans H; rw [hy265]; with_reducible exact H2_) | (have H2_ := (Option.bind_some _ _).symm.trans H; with_reducible exact H2_) | with_reducible exact H | (rw [hy265]; exact H) | exact H
       have Ny265 := Aside0.mk hy265
       clear hy265
       obtain ⟨y268, hy268⟩ : ∃ y_ : List (S68), y_ = (([(⟨a1_0, a1_1⟩ : S68)] : List (S68))) := ⟨_, rfl⟩
       replace H : (if y265.length + y268.length < 8796093022208 then ((some (y265 ++ y268 : List (S68))).bind fun y271 => ((spec_l15Up.f kj2 y271 (wrap64 ((y271.length : Int) - 1))).bind fun bt274 => (some (bt274.1, 0)))) else (none)) = some (r1, r2) := by first | (rw [hy268]; with_reducible exact H) | (have H2_ := (Option.bind_some _ _).symm.trans H; rw [hy268]; with_reducible exact H2_) | (have H2_ := (Option.bind_some _ _).symm.trans H; with_reducible exact H2_) | with_reducible exact H | (rw [hy268]; exact H) | exact H
       have Ny268 := Aside0.mk hy268
       clear hy268
       by_cases c41 : y265.length + y268.length < 8796093022208
       ·rw [if_pos c41] at H
        have LMc41 := Aside0.mk c41
        clear c41
        obtain ⟨y271, hy271⟩ : ∃ y_ : List (S68), y_ = (y265 ++ y268) := ⟨_, rfl⟩
        replace H : ((spec_l15Up.f kj2 y271 (wrap64 ((y271.length : Int) - 1))).bind fun bt274 => (some (bt274.1, 0))) = some (r1, r2) := by first | (rw [hy271]; with_reducible exact H) | (have H2_ := (Option.bind_some _ _).symm.trans H; rw [hy271]; with_reducible exact H2_) | (have H2_ := (Option.bind_some _ _).symm.trans H; with_reducible exact H2_) | with_reducible exact H | (rw [hy271]; exact H) | exact H
        have Ny271 := Aside0.mk hy271
        clear hy271
        replace H := Option.bind_eq_some_iff.mp H
        obtain ⟨⟨t274, t277⟩, A420, H⟩ := H
        have A42 := Aside0.mk A420
        clear A420
        simp only [Option.some.injEq, Prod.mk.injEq] at H
        obtain ⟨rfl, rfl⟩ := H
        have hnb43 := NB256_257.out; have hnc43 := NB257_256.out; have hnb44 := NB256_258.out; have hnc44 := NB258_256.out; obtain ⟨hcz45_0, hfz45_0⟩ := bz1_ BK256; have hnb46 := NB257_258.out; have hnc46 := NB258_257.out; obtain ⟨hcz47_0, hcz47_1, hfz47_0, hfz47_1⟩ := bz2_ BK257
        try go_wp2_with (first | ((with_reducible refine gc_ 93 rfl ?_); refine gl_ 20 Try.func93 #[.slice A0_0 l0_0.length c0_0, .int .i64 a1_1] ?_; (with_reducible refine (spec_l15At.calls kj2 _ _ l0_0 a1_1 t261 _ ?side1 ?side2 A25.out).mono ?_); (case side1 => repeat (first | exact (Kd.C_below HR0_0.out HB.out) | (with_reducible refine Kd.C_alloc ?_ _) | (with_reducible refine Kd.C_drewN ?_ _) | (with_reducible refine Kd.C_drew ?_))); (case side2 => exact HC0_0.out); rintro e w' ⟨rfl, ⟨nd, rfl⟩⟩; refine ⟨_, rfl, ?_⟩; (try (rw [drewN_self wc]; generalize hq_ : World.drewN wc _ = wc; have n0_ : Aside0 (wc.heap[gb256]? = some (.cells #[.slice A0_0 l0_0.length c0_0] 29 (0, 0))) := ⟨by rw [← hq_]; exact (bk_ BK256)⟩; have n1_ : Aside0 (wc.heap[gb257]? = some (.cells #[.int .i64 a1_0, .int .i64 a1_1] 68 (0, 0))) := ⟨by rw [← hq_]; exact (bk_ BK257)⟩; have n2_ : Aside0 (wc.heap[gb258]? = some (.cells #[.slice none 0 0] 29 (0, 0))) := ⟨by rw [← hq_]; exact (bk_ BK258)⟩; have n3_ : Aside0 (Below w.heap.size w wc) := ⟨by rw [← hq_]; exact (bf_ HB)⟩; clear BK256 BK257 BK258 HB hq_; have BK256 := n0_; have BK257 := n1_; have BK258 := n2_; have HB := n3_; clear n0_ n1_ n2_ n3_; have hcs256_0 := bc_ BK256 0 (.slice A0_0 l0_0.length c0_0) rfl; have hfs256_0 := blk_frozen BK256.out 0; have hcs257_0 := bc_ BK257 0 (.int .i64 a1_0) rfl; have hfs257_0 := blk_frozen BK257.out 0; have hcs257_1 := bc_ BK257 1 (.int .i64 a1_1) rfl; have hfs257_1 := blk_frozen BK257.out 1; have hcs258_0 := bc_ BK258 0 (.slice none 0 0) rfl; have hfs258_0 := blk_frozen BK258.out 0))))
        replace BK256 := Aside0.mk (blk_drew BK256.out); replace BK257 := Aside0.mk (blk_drew BK257.out); replace BK258 := Aside0.mk (blk_drew BK258.out); replace HB := Aside0.mk (below_drew1 HB.out)
        refine start_ (n := 8) (S := fun w' => cw_ w' gb256 0 (.slice A0_0 l0_0.length c0_0) ∧ cw_ w' gb257 0 (.int .i64 a1_0) ∧ cw_ w' gb257 1 (.int .i64 a1_1)) (ds := []) (bs 8 0) (by kernel_rfl) rfl rfl ⟨bt_ BK256 0, bt_ BK257 0, bt_ BK257 1⟩ (fun hHeld => ?_); refine with_tabW spec_HeapPush.tab7 spec_HeapPush.bits7 (fun HT_ HW_ => ?_)
        generalize wc.drew = w48 at BK256 BK257 BK258 HB hHeld ⊢
        refine ps_ 1 29 (bm 8 2) HT_ ?_
        refine tk_ 2 30 (bm 8 6) HT_ HW_ hHeld ?_
        refine tk_ 4 32 (bm 8 22) HT_ HW_ hHeld ?_
        refine join_ (σ := Value × Value × Value) 2 (bs 8 6) (fun s_ => [(28, s_.1), (31, s_.2.1), (33, s_.2.2)]) (fun s_ w' => (w'.cell? ⟨gb256, 0, none⟩ = some (.slice A0_0 l0_0.length c0_0) ∧ w'.cell? ⟨gb257, 0, none⟩ = some (.int .i64 a1_0) ∧ w'.cell? ⟨gb257, 1, none⟩ = some (.int .i64 a1_1)) ∧ (Kd.R k68 68 w' w.heap.size (fun k_ => some k_ ≠ (s_.2.2 : Value).ownBlock ∧ k_ ≠ gb257) s_.2.1 y265) ∧ (Kd.R k68 68 w' w.heap.size (fun k_ => some k_ ≠ (s_.2.1 : Value).ownBlock ∧ k_ ≠ gb257) s_.2.2 y268) ∧ (w'.heap[gb256]? = some (.cells #[.slice A0_0 l0_0.length c0_0] 29 (0, 0))) ∧ (w'.heap[gb257]? = some (.cells #[.int .i64 a1_0, .int .i64 a1_1] 68 (0, 0))) ∧ (w'.heap[gb258]? = some (.cells #[.slice none 0 0] 29 (0, 0))) ∧ (Below w.heap.size w w')) ?_ ?_
        rotate_left
        ·intro hCont
         refine two_ (i := 0) (j := 5) (Ni := some 28) (Nj := some 33) (bm 8 23) (bm 8 54) rfl rfl rfl rfl (two_of HT_.out (by kernel_rfl)) (by decide) (by decide) (fun K hK => ?_) (fun K hK => ?_)
         ·skip
          refine Kd.R_lit_step k68 _ 68 ?hg (N := 28) ?hd (xs := ([] : List (S68))) (inner := []) (ok := fun _ => True) (okp := fun _ => True) ?hr ?hp (fun _ hk => by first | exact hk | grind) trivial (Below.refl _ _) (Nat.le_refl _) (by simp) ?_; (case hd => rfl); (case hg => rfl); (case hr => first | (go_simp; done) | (go_simp; rfl)); (case hp => exact (Reps.none _ _))
          intro v263 w49 ho50 hb hg_ hnew_
          clear hg_ hnew_
          (first | rw [← Ny262.out] at ho50 | (simp only [Int.reduceToNat] at ho50; rw [← Ny262.out] at ho50))
          have HO264 := Aside0.mk (Kd.R_lower (Kd.R_newB ho50 (g := gb257) (o := .cells #[.int .i64 a1_0, .int .i64 a1_1] 68 (0, 0)) (bk_ BK257)) (below_size (bf_ HB))); replace BK256 := bb_ BK256 hb; replace BK257 := bb_ BK257 hb; replace BK258 := bb_ BK258 hb; replace HB := Aside0.mk (below_step (bf_ HB) hb); clear hb ho50
          refine hK.out _ _ ⟨bt_ BK256 0, bt_ BK257 0, bt_ BK257 1⟩ (fun hHeld => ?_)
          clear hK K
          refine norm_ (a' := ?_) ?_ ?_
          rotate_left
          ·show Act.put _ (some 28) _ = _
           simp only [Act.put, ls0_, ls1_, ls2_, i64_w, i32_w]
           rfl
          refine two_ (i := 3) (j := 5) (Ni := some 31) (Nj := some 33) (bs 8 5) (bm 8 55) rfl rfl rfl rfl (two_of HT_.out (by kernel_rfl)) (by decide) (by decide) (fun K hK => ?_) (fun K hK => ?_)
          ·skip
           refine Kd.R_append_rows_step k68 (w0 := w) w.heap.size (by rfl) (.tmp 28) (.tmp 30) 26 68 (.agg #[(.int .i64 0), (.int .i64 0)]) 16 rfl Try.underlying26 info68 rfl (by decide) (by omega) v263 y262 l0_0 _ _ _ (fun k_ => k_ ≠ gb257) (fun _ => False) rfl rfl ?aO ?aR (fun _ _ h => h) (fun _ h => h.elim) ?aF ?aB ?aS ?aL ?_
           (case aR => repeat (first | exact (Kd.C_below HR0_0.out HB.out) | (with_reducible refine Kd.C_alloc ?_ _) | (with_reducible refine Kd.C_drewN ?_ _) | (with_reducible refine Kd.C_drew ?_)))
           (case aB => exact (bf_ HB))
           (case aF => exact (fun k_ hk => by first | exact Kd.freshB (g := gb257) (o := .cells #[.int .i64 a1_0, .int .i64 a1_1] 68 (0, 0)) (bk_ BK257) k_ hk | grind))
           (case aO => exact (by (with_reducible repeat (first | apply Kd.R_alloc | apply Kd.R_drewN | apply Kd.R_drew)); exact Kd.R_mono HO264.out (fun _ hk => by first | exact hk.2 | grind)))
           (case aS => exact (below_size (bf_ HB)))
           (case aL => have := LMc40.out; omega)
           intro v266 w51 ho hb hg hat
           rw [← Ny265.out] at ho
           have n0_ := Aside0.mk (blk_grown (g := gb256) (o := .cells #[.slice A0_0 l0_0.length c0_0] 29 (0, 0)) (bk_ BK256) hg (Kd.R_ne HO264.out BK256.out (by decide)))
           have n1_ := Aside0.mk (blk_grown (g := gb257) (o := .cells #[.int .i64 a1_0, .int .i64 a1_1] 68 (0, 0)) (bk_ BK257) hg (Kd.R_away HO264.out (fun _ hk => by first | exact hk.2 | grind)))
           have n2_ := Aside0.mk (blk_grown (g := gb258) (o := .cells #[.slice none 0 0] 29 (0, 0)) (bk_ BK258) hg (Kd.R_ne HO264.out BK258.out (by decide)))
           have n3_ := Aside0.mk (hb); have n4_ := Aside0.mk (ho); clear BK256 BK257 BK258 HB HO264; have BK256 := n0_; have BK257 := n1_; have BK258 := n2_; have HB := n3_; have HO267 := n4_; clear n0_ n1_ n2_ n3_ n4_ ho hb hg hat
           refine hK.out _ _ ⟨bt_ BK256 0, bt_ BK257 0, bt_ BK257 1⟩ (fun hHeld => ?_)
           clear hK K
           refine norm_ (a' := ?_) ?_ ?_
           rotate_left
           ·show Act.put _ (some 31) _ = _
            simp only [Act.put, ls0_, ls1_, ls2_, i64_w, i32_w]
            rfl
           refine on_ 5 (some 33) (bs 8 6) HT_ (fun K hK => ?_)
           refine Kd.R_lit_step k68 _ 68 ?hg (N := 33) ?hd (xs := ([(⟨a1_0, a1_1⟩ : S68)] : List (S68))) (inner := [.int .i64 a1_0, .int .i64 a1_1]) (ok := fun _ => True) (okp := fun _ => True) ?hr ?hp (fun _ hk => by first | exact hk | grind) trivial (Below.refl _ _) (Nat.le_refl _) (by simp) ?_; (case hd => rfl); (case hg => rfl); (case hr => first | (go_simp; done) | (go_simp; rfl)); (case hp => exact (Reps.c2 (show Kd.M k68 _ _ _ (⟨a1_0, a1_1⟩ : S68) [.int .i64 a1_0, .int .i64 a1_1] from (k68_mkM _ _ _ (⟨a1_0, a1_1⟩ : S68) )) (Reps.none _ _)))
           intro v269 w52 ho53 hb hg_ hnew_
           clear hg_ hnew_
           (first | rw [← Ny268.out] at ho53 | (simp only [Int.reduceToNat] at ho53; rw [← Ny268.out] at ho53))
           have HO270 := Aside0.mk (Kd.R_lower (Kd.R_newB (Kd.R_new' ho53 (Kd.R_lt (kr_ HO267))) (g := gb257) (o := .cells #[.int .i64 a1_0, .int .i64 a1_1] 68 (0, 0)) (bk_ BK257)) (below_size (bf_ HB))); replace HO267 := Aside0.mk (Kd.R_elder' (kr_ HO267) (Kd.R_base ho53) hb); replace BK256 := bb_ BK256 hb; replace BK257 := bb_ BK257 hb; replace BK258 := bb_ BK258 hb; replace HB := Aside0.mk (below_step (bf_ HB) hb); clear hb ho53
           refine hK.out _ _ ⟨bt_ BK256 0, bt_ BK257 0, bt_ BK257 1⟩ (fun hHeld => ?_)
           clear hK K
           refine norm_ (a' := ?_) ?_ ?_
           rotate_left
           ·show Act.put _ (some 33) _ = _
            simp only [Act.put, ls0_, ls1_, ls2_, i64_w, i32_w]
            rfl
           exact norm_ (by simp only [putAll, Act.put, ls0_, ls1_, ls2_]) (hCont (v263, v266, v269) _ ⟨hHeld, (by (with_reducible repeat (first | apply Kd.R_alloc | apply Kd.R_drewN | apply Kd.R_drew)); exact Kd.R_mono HO267.out (fun _ hk => by first | exact ⟨hk.2, hk.1⟩ | grind)), (by (with_reducible repeat (first | apply Kd.R_alloc | apply Kd.R_drewN | apply Kd.R_drew)); exact Kd.R_mono HO270.out (fun _ hk => by first | exact ⟨hk.1.2, hk.2⟩ | grind)), (bk_ BK256), (bk_ BK257), (bk_ BK258), (bf_ HB)⟩)
          ·skip
           refine Kd.R_lit_step k68 _ 68 ?hg (N := 33) ?hd (xs := ([(⟨a1_0, a1_1⟩ : S68)] : List (S68))) (inner := [.int .i64 a1_0, .int .i64 a1_1]) (ok := fun _ => True) (okp := fun _ => True) ?hr ?hp (fun _ hk => by first | exact hk | grind) trivial (Below.refl _ _) (Nat.le_refl _) (by simp) ?_; (case hd => rfl); (case hg => rfl); (case hr => first | (go_simp; done) | (go_simp; rfl)); (case hp => exact (Reps.c2 (show Kd.M k68 _ _ _ (⟨a1_0, a1_1⟩ : S68) [.int .i64 a1_0, .int .i64 a1_1] from (k68_mkM _ _ _ (⟨a1_0, a1_1⟩ : S68) )) (Reps.none _ _)))
           intro v269 w51 ho52 hb hg_ hnew_
           clear hg_ hnew_
           (first | rw [← Ny268.out] at ho52 | (simp only [Int.reduceToNat] at ho52; rw [← Ny268.out] at ho52))
           have HO270 := Aside0.mk (Kd.R_lower (Kd.R_newB (Kd.R_new' ho52 (Kd.R_lt (kr_ HO264))) (g := gb257) (o := .cells #[.int .i64 a1_0, .int .i64 a1_1] 68 (0, 0)) (bk_ BK257)) (below_size (bf_ HB))); replace HO264 := Aside0.mk (Kd.R_elder' (kr_ HO264) (Kd.R_base ho52) hb); replace BK256 := bb_ BK256 hb; replace BK257 := bb_ BK257 hb; replace BK258 := bb_ BK258 hb; replace HB := Aside0.mk (below_step (bf_ HB) hb); clear hb ho52
           refine hK.out _ _ ⟨bt_ BK256 0, bt_ BK257 0, bt_ BK257 1⟩ (fun hHeld => ?_)
           clear hK K
           refine norm_ (a' := ?_) ?_ ?_
           rotate_left
           ·show Act.put _ (some 33) _ = _
            simp only [Act.put, ls0_, ls1_, ls2_, i64_w, i32_w]
            rfl
           refine on_ 3 (some 31) (bs 8 6) HT_ (fun K hK => ?_)
           refine Kd.R_append_rows_step k68 (w0 := w) w.heap.size (by rfl) (.tmp 28) (.tmp 30) 26 68 (.agg #[(.int .i64 0), (.int .i64 0)]) 16 rfl Try.underlying26 info68 rfl (by decide) (by omega) v263 y262 l0_0 _ _ _ (fun k_ => some k_ ≠ (v269 : Value).ownBlock ∧ k_ ≠ gb257) (fun _ => False) rfl rfl ?aO ?aR (fun _ _ h => h) (fun _ h => h.elim) ?aF ?aB ?aS ?aL ?_
           (case aR => repeat (first | exact (Kd.C_below HR0_0.out HB.out) | (with_reducible refine Kd.C_alloc ?_ _) | (with_reducible refine Kd.C_drewN ?_ _) | (with_reducible refine Kd.C_drew ?_)))
           (case aB => exact (bf_ HB))
           (case aF => exact (fun k_ hk => by first | exact ⟨Kd.fresh' (Kd.R_lt (kr_ HO270)) k_ hk, Kd.freshB (g := gb257) (o := .cells #[.int .i64 a1_0, .int .i64 a1_1] 68 (0, 0)) (bk_ BK257) k_ hk⟩ | grind))
           (case aO => exact (by (with_reducible repeat (first | apply Kd.R_alloc | apply Kd.R_drewN | apply Kd.R_drew)); exact Kd.R_mono HO264.out (fun _ hk => by first | exact ⟨hk.2, hk.1.2⟩ | grind)))
           (case aS => exact (below_size (bf_ HB)))
           (case aL => have := LMc40.out; omega)
           intro v266 w53 ho hb hg hat
           rw [← Ny265.out] at ho
           have n0_ := Aside0.mk (blk_grown (g := gb256) (o := .cells #[.slice A0_0 l0_0.length c0_0] 29 (0, 0)) (bk_ BK256) hg (Kd.R_ne HO264.out BK256.out (by decide)))
           have n1_ := Aside0.mk (blk_grown (g := gb257) (o := .cells #[.int .i64 a1_0, .int .i64 a1_1] 68 (0, 0)) (bk_ BK257) hg (Kd.R_away HO264.out (fun _ hk => by first | exact hk.1.2 | grind)))
           have n2_ := Aside0.mk (blk_grown (g := gb258) (o := .cells #[.slice none 0 0] 29 (0, 0)) (bk_ BK258) hg (Kd.R_ne HO264.out BK258.out (by decide)))
           have n3_ := Aside0.mk (Kd.R_after (ok := (fun k_ => k_ ≠ gb257)) (by (with_reducible repeat (first | apply Kd.R_alloc | apply Kd.R_drewN | apply Kd.R_drew)); exact Kd.R_mono HO270.out (fun _ hk => by first | exact ⟨hk.2, hk.1.2⟩ | grind)) hg hat)
           have n4_ := Aside0.mk (hb); have n5_ := Aside0.mk (ho); clear BK256 BK257 BK258 HO270 HB HO264; have BK256 := n0_; have BK257 := n1_; have BK258 := n2_; have HO270 := n3_; have HB := n4_; have HO267 := n5_; clear n0_ n1_ n2_ n3_ n4_ n5_ ho hb hg hat
           refine hK.out _ _ ⟨bt_ BK256 0, bt_ BK257 0, bt_ BK257 1⟩ (fun hHeld => ?_)
           clear hK K
           refine norm_ (a' := ?_) ?_ ?_
           rotate_left
           ·show Act.put _ (some 31) _ = _
            simp only [Act.put, ls0_, ls1_, ls2_, i64_w, i32_w]
            rfl
           exact norm_ (by simp only [putAll, Act.put, ls0_, ls1_, ls2_]) (hCont (v263, v266, v269) _ ⟨hHeld, (kr_ HO267), (by (with_reducible repeat (first | apply Kd.R_alloc | apply Kd.R_drewN | apply Kd.R_drew)); exact Kd.R_mono HO270.out (fun _ hk => by first | exact ⟨hk.2, hk.1⟩ | grind)), (bk_ BK256), (bk_ BK257), (bk_ BK258), (bf_ HB)⟩)
         ·skip
          refine Kd.R_lit_step k68 _ 68 ?hg (N := 33) ?hd (xs := ([(⟨a1_0, a1_1⟩ : S68)] : List (S68))) (inner := [.int .i64 a1_0, .int .i64 a1_1]) (ok := fun _ => True) (okp := fun _ => True) ?hr ?hp (fun _ hk => by first | exact hk | grind) trivial (Below.refl _ _) (Nat.le_refl _) (by simp) ?_; (case hd => rfl); (case hg => rfl); (case hr => first | (go_simp; done) | (go_simp; rfl)); (case hp => exact (Reps.c2 (show Kd.M k68 _ _ _ (⟨a1_0, a1_1⟩ : S68) [.int .i64 a1_0, .int .i64 a1_1] from (k68_mkM _ _ _ (⟨a1_0, a1_1⟩ : S68) )) (Reps.none _ _)))
          intro v269 w49 ho50 hb hg_ hnew_
          clear hg_ hnew_
          (first | rw [← Ny268.out] at ho50 | (simp only [Int.reduceToNat] at ho50; rw [← Ny268.out] at ho50))
          have HO270 := Aside0.mk (Kd.R_lower (Kd.R_newB ho50 (g := gb257) (o := .cells #[.int .i64 a1_0, .int .i64 a1_1] 68 (0, 0)) (bk_ BK257)) (below_size (bf_ HB))); replace BK256 := bb_ BK256 hb; replace BK257 := bb_ BK257 hb; replace BK258 := bb_ BK258 hb; replace HB := Aside0.mk (below_step (bf_ HB) hb); clear hb ho50
          refine hK.out _ _ ⟨bt_ BK256 0, bt_ BK257 0, bt_ BK257 1⟩ (fun hHeld => ?_)
          clear hK K
          refine norm_ (a' := ?_) ?_ ?_
          rotate_left
          ·show Act.put _ (some 33) _ = _
           simp only [Act.put, ls0_, ls1_, ls2_, i64_w, i32_w]
           rfl
          refine on_ 0 (some 28) (bm 8 55) HT_ (fun K hK => ?_)
          refine Kd.R_lit_step k68 _ 68 ?hg (N := 28) ?hd (xs := ([] : List (S68))) (inner := []) (ok := fun _ => True) (okp := fun _ => True) ?hr ?hp (fun _ hk => by first | exact hk | grind) trivial (Below.refl _ _) (Nat.le_refl _) (by simp) ?_; (case hd => rfl); (case hg => rfl); (case hr => first | (go_simp; done) | (go_simp; rfl)); (case hp => exact (Reps.none _ _))
          intro v263 w51 ho52 hb hg_ hnew_
          clear hg_ hnew_
          (first | rw [← Ny262.out] at ho52 | (simp only [Int.reduceToNat] at ho52; rw [← Ny262.out] at ho52))
          have HO264 := Aside0.mk (Kd.R_lower (Kd.R_newB (Kd.R_new' ho52 (Kd.R_lt (kr_ HO270))) (g := gb257) (o := .cells #[.int .i64 a1_0, .int .i64 a1_1] 68 (0, 0)) (bk_ BK257)) (below_size (bf_ HB))); replace HO270 := Aside0.mk (Kd.R_elder' (kr_ HO270) (Kd.R_base ho52) hb); replace BK256 := bb_ BK256 hb; replace BK257 := bb_ BK257 hb; replace BK258 := bb_ BK258 hb; replace HB := Aside0.mk (below_step (bf_ HB) hb); clear hb ho52
          refine hK.out _ _ ⟨bt_ BK256 0, bt_ BK257 0, bt_ BK257 1⟩ (fun hHeld => ?_)
          clear hK K
          refine norm_ (a' := ?_) ?_ ?_
          rotate_left
          ·show Act.put _ (some 28) _ = _
           simp only [Act.put, ls0_, ls1_, ls2_, i64_w, i32_w]
           rfl
          refine on_ 3 (some 31) (bs 8 6) HT_ (fun K hK => ?_)
          refine Kd.R_append_rows_step k68 (w0 := w) w.heap.size (by rfl) (.tmp 28) (.tmp 30) 26 68 (.agg #[(.int .i64 0), (.int .i64 0)]) 16 rfl Try.underlying26 info68 rfl (by decide) (by omega) v263 y262 l0_0 _ _ _ (fun k_ => some k_ ≠ (v269 : Value).ownBlock ∧ k_ ≠ gb257) (fun _ => False) rfl rfl ?aO ?aR (fun _ _ h => h) (fun _ h => h.elim) ?aF ?aB ?aS ?aL ?_
          (case aR => repeat (first | exact (Kd.C_below HR0_0.out HB.out) | (with_reducible refine Kd.C_alloc ?_ _) | (with_reducible refine Kd.C_drewN ?_ _) | (with_reducible refine Kd.C_drew ?_)))
          (case aB => exact (bf_ HB))
          (case aF => exact (fun k_ hk => by first | exact ⟨Kd.fresh' (Kd.R_lt (kr_ HO270)) k_ hk, Kd.freshB (g := gb257) (o := .cells #[.int .i64 a1_0, .int .i64 a1_1] 68 (0, 0)) (bk_ BK257) k_ hk⟩ | grind))
          (case aO => exact (by (with_reducible repeat (first | apply Kd.R_alloc | apply Kd.R_drewN | apply Kd.R_drew)); exact Kd.R_mono HO264.out (fun _ hk => by first | exact ⟨hk.1.2, hk.2⟩ | grind)))
          (case aS => exact (below_size (bf_ HB)))
          (case aL => have := LMc40.out; omega)
          intro v266 w53 ho hb hg hat
          rw [← Ny265.out] at ho
          have n0_ := Aside0.mk (blk_grown (g := gb256) (o := .cells #[.slice A0_0 l0_0.length c0_0] 29 (0, 0)) (bk_ BK256) hg (Kd.R_ne HO264.out BK256.out (by decide)))
          have n1_ := Aside0.mk (blk_grown (g := gb257) (o := .cells #[.int .i64 a1_0, .int .i64 a1_1] 68 (0, 0)) (bk_ BK257) hg (Kd.R_away HO264.out (fun _ hk => by first | exact hk.2 | grind)))
          have n2_ := Aside0.mk (blk_grown (g := gb258) (o := .cells #[.slice none 0 0] 29 (0, 0)) (bk_ BK258) hg (Kd.R_ne HO264.out BK258.out (by decide)))
          have n3_ := Aside0.mk (Kd.R_after (ok := (fun k_ => k_ ≠ gb257)) (by (with_reducible repeat (first | apply Kd.R_alloc | apply Kd.R_drewN | apply Kd.R_drew)); exact Kd.R_mono HO270.out (fun _ hk => by first | exact ⟨hk.1.2, hk.2⟩ | grind)) hg hat)
          have n4_ := Aside0.mk (hb); have n5_ := Aside0.mk (ho); clear BK256 BK257 BK258 HO270 HB HO264; have BK256 := n0_; have BK257 := n1_; have BK258 := n2_; have HO270 := n3_; have HB := n4_; have HO267 := n5_; clear n0_ n1_ n2_ n3_ n4_ n5_ ho hb hg hat
          refine hK.out _ _ ⟨bt_ BK256 0, bt_ BK257 0, bt_ BK257 1⟩ (fun hHeld => ?_)
          clear hK K
          refine norm_ (a' := ?_) ?_ ?_
          rotate_left
          ·show Act.put _ (some 31) _ = _
           simp only [Act.put, ls0_, ls1_, ls2_, i64_w, i32_w]
           rfl
          exact norm_ (by simp only [putAll, Act.put, ls0_, ls1_, ls2_]) (hCont (v263, v266, v269) _ ⟨hHeld, (kr_ HO267), (by (with_reducible repeat (first | apply Kd.R_alloc | apply Kd.R_drewN | apply Kd.R_drew)); exact Kd.R_mono HO270.out (fun _ hk => by first | exact ⟨hk.2, hk.1⟩ | grind)), (bk_ BK256), (bk_ BK257), (bk_ BK258), (bf_ HB)⟩)
        rintro ⟨v263, v266, v269⟩ w54 ⟨hS_, h0_, h1_, h2_, h3_, h4_, h5_⟩
        have n0_ : Aside0 (Kd.R k68 68 w54 w.heap.size (fun k_ => some k_ ≠ (v269 : Value).ownBlock ∧ k_ ≠ gb257) v266 y265) := ⟨h0_⟩
        have n1_ : Aside0 (Kd.R k68 68 w54 w.heap.size (fun k_ => some k_ ≠ (v266 : Value).ownBlock ∧ k_ ≠ gb257) v269 y268) := ⟨h1_⟩
        have n2_ : Aside0 (w54.heap[gb256]? = some (.cells #[.slice A0_0 l0_0.length c0_0] 29 (0, 0))) := ⟨h2_⟩
        have n3_ : Aside0 (w54.heap[gb257]? = some (.cells #[.int .i64 a1_0, .int .i64 a1_1] 68 (0, 0))) := ⟨h3_⟩
        have n4_ : Aside0 (w54.heap[gb258]? = some (.cells #[.slice none 0 0] 29 (0, 0))) := ⟨h4_⟩
        have n5_ : Aside0 (Below w.heap.size w w54) := ⟨h5_⟩
        clear BK256 BK257 BK258 HB h0_ h1_ h2_ h3_ h4_ h5_; have HO267 := n0_; have HO270 := n1_; have BK256 := n2_; have BK257 := n3_; have BK258 := n4_; have HB := n5_; clear n0_ n1_ n2_ n3_ n4_ n5_
        have hHeld : w54.cell? ⟨gb256, 0, none⟩ = some (.slice A0_0 l0_0.length c0_0) ∧ w54.cell? ⟨gb257, 0, none⟩ = some (.int .i64 a1_0) ∧ w54.cell? ⟨gb257, 1, none⟩ = some (.int .i64 a1_1) := hS_
        obtain ⟨Ao56, co56, eo56⟩ := Kd.R_slice HO270.out
        (first | subst eo56 | (injection eo56 with f1_ f2_ f3_; have f4_ := f1_.symm; have f5_ := f3_.symm; clear f1_ f2_ f3_; subst f4_; subst f5_))
        refine norm_ (a' := ?_) ?_ ?_
        rotate_left
        ·simp only [putAll, Act.put, ls0_, ls1_, ls2_]
         rfl
        refine on_ 6 (some 34) (bs 8 7) HT_ (fun K hK => ?_)
        refine Kd.R_append_rows_step k68 (w0 := w) w.heap.size (by rfl) (.tmp 31) (.tmp 33) 26 68 (.agg #[(.int .i64 0), (.int .i64 0)]) 16 rfl Try.underlying26 info68 rfl (by decide) (by omega) v266 y265 y268 _ _ _ (fun k_ => some k_ ≠ (.slice Ao56 y268.length co56 : Value).ownBlock ∧ k_ ≠ gb257) (fun _ => False) rfl rfl ?aO ?aR (fun _ _ h => h) (fun _ h => h.elim) ?aF ?aB ?aS ?aL ?_
        (case aR => exact cr_ HO270)
        (case aB => exact (bf_ HB))
        (case aF => exact (fun k_ hk => by first | exact ⟨Kd.fresh' (Kd.R_lt (kr_ HO270)) k_ hk, Kd.freshB (g := gb257) (o := .cells #[.int .i64 a1_0, .int .i64 a1_1] 68 (0, 0)) (bk_ BK257) k_ hk⟩ | grind))
        (case aO => exact (kr_ HO267))
        (case aS => exact (below_size (bf_ HB)))
        (case aL => have := LMc41.out; omega)
        intro v272 w55 ho hb hg hat
        rw [← Ny271.out] at ho
        have n0_ := Aside0.mk (blk_grown (g := gb256) (o := .cells #[.slice A0_0 l0_0.length c0_0] 29 (0, 0)) (bk_ BK256) hg (Kd.R_ne HO267.out BK256.out (by decide)))
        have n1_ := Aside0.mk (blk_grown (g := gb257) (o := .cells #[.int .i64 a1_0, .int .i64 a1_1] 68 (0, 0)) (bk_ BK257) hg (Kd.R_away HO267.out (fun _ hk => by first | exact hk.2 | grind)))
        have n2_ := Aside0.mk (blk_grown (g := gb258) (o := .cells #[.slice none 0 0] 29 (0, 0)) (bk_ BK258) hg (Kd.R_ne HO267.out BK258.out (by decide)))
        have n3_ := Aside0.mk (Kd.R_after (ok := (fun k_ => k_ ≠ gb257)) (by (with_reducible repeat (first | apply Kd.R_alloc | apply Kd.R_drewN | apply Kd.R_drew)); exact Kd.R_mono HO270.out (fun _ hk => by first | exact ⟨hk.2, hk.1⟩ | grind)) hg hat)
        have n4_ := Aside0.mk (hb); have n5_ := Aside0.mk (ho); clear BK256 BK257 BK258 HO270 HB HO267; have BK256 := n0_; have BK257 := n1_; have BK258 := n2_; have HO270 := n3_; have HB := n4_; have HO273 := n5_; clear n0_ n1_ n2_ n3_ n4_ n5_ ho hb hg hat
        refine hK.out _ _ ⟨bt_ BK256 0, bt_ BK257 0, bt_ BK257 1⟩ (fun hHeld => ?_)
        clear hK K
        refine norm_ (a' := ?_) ?_ ?_
        rotate_left
        ·show Act.put _ (some 34) _ = _
         simp only [Act.put, ls0_, ls1_, ls2_, i64_w, i32_w]
         rfl
        refine psn_ HT_ ?_
        refine done_ (done_of HT_.out (by kernel_rfl)) ?_
        obtain ⟨Ao57, co57, eo57⟩ := Kd.R_slice HO273.out
        subst eo57
        try go_wp2_with (first | ((with_reducible refine gc_ 131 rfl ?_); refine gl_ 40 Try.func131 #[.slice Ao57 y271.length co57, .int .i64 (wrap64 ((y271.length : Int) - 1))] ?_; (with_reducible refine (spec_l15Up.calls kj2 (fun k_ => some k_ = (.slice Ao57 y271.length co57 : Value).ownBlock) (.slice Ao57 y271.length co57) y271 (wrap64 ((y271.length : Int) - 1)) t274 t277 w _ ?side1 ?side2 A42.out).mono ?_); (case side1 => repeat (first | (with_reducible first | exact HB.out | apply below_alloc | apply pw_below_drewN | apply below_drew1 | refine below_set ?_ GE256.out | refine below_set ?_ GE257.out | refine below_set ?_ GE258.out) | exact HB.out)); (case side2 => exact Kd.R_tight rfl HO273.out); rintro e w58 ⟨v275, rfl, ho0, hb, hkp⟩; refine ⟨_, rfl, ?_⟩; replace BK256 := Aside0.mk (blk_kept (bk_ BK256) hkp (fun hs_ => (fun e_ => (Kd.R_ne HO273.out BK256.out (by decide)) e_) hs_)); replace BK258 := Aside0.mk (blk_kept (bk_ BK258) hkp (fun hs_ => (fun e_ => (Kd.R_ne HO273.out BK258.out (by decide)) e_) hs_)); have HO276 := Aside0.mk (Kd.R_mono (ok' := fun k_ => some k_ ≠ (.slice Ao56 y268.length co56 : Value).ownBlock ∧ k_ ≠ gb257) ho0 (fun k_ hk_ => by first | exact ⟨Or.elim hk_ (fun hs_ => fun e_ => (((HO270.out).1 k_ e_.symm).2) hs_) (fun hn_ => (Kd.fresh' (Kd.R_lt (kr_ HO270)) k_ hn_)), Or.elim hk_ (fun hs_ => fun e_ => (Kd.R_away HO273.out (fun _ hk => by first | exact hk.2 | grind)) (by rw [← e_]; exact hs_)) (fun hn_ => (Kd.freshB (g := gb257) (o := .cells #[.int .i64 a1_0, .int .i64 a1_1] 68 (0, 0)) (bk_ BK257) k_ hn_))⟩ | grind)); replace BK257 := Aside0.mk (blk_kept (bk_ BK257) hkp (fun hs_ => (fun e_ => (Kd.R_away HO273.out (fun _ hk => by first | exact hk.2 | grind)) e_) hs_)); replace HO270 := Aside0.mk (Kd.R_mono (ok' := fun k_ => k_ ≠ gb257 ∧ some k_ ≠ (v275 : Value).ownBlock) (Kd.R_keptB (HO270.out) hkp (fun k_ hk_ hs_ => by first | exact (hk_.2) hs_ | grind)) (fun k_ hk_ => by first | exact ⟨hk_.1.1, fun e_ => Or.elim (ho0.1 k_ e_.symm) (fun hs_ => hk_.2.1 hs_) (fun hn_ => Nat.not_le.2 hk_.2.2 hn_)⟩ | grind)); replace HB := Aside0.mk (hb); clear HO273; (try clear hb); (try clear hkp); (try clear ho0); obtain ⟨Ao59, co59, eo59⟩ := Kd.R_slice HO276.out; subst eo59; obtain ⟨hcz60_0, hfz60_0⟩ := bz1_ BK258))
        refine bodyPost_ret (results_ct rfl _ _ gb258 29 #[.slice Ao59 t274.length co59] (0, 0) _ rfl (by (with_reducible repeat (first | refine blk_drewN ?_ _ | refine blk_drew ?_ | refine blk_alloc ?_ _)); refine blk_put (cs := #[.slice none 0 0]) ?_ 0 _ rfl; exact bk_ BK258) Try.underlying29 rfl (by kernel_rfl)) rfl ?_
        exact ⟨_, by first | rfl | (simp [errW_none, errW_some] <;> rfl) | (simp [*, errW_none, errW_some] <;> rfl), by (with_reducible repeat (first | apply Kd.R_alloc | apply Kd.R_drewN | apply Kd.R_drew)); exact Kd.R_mono (Kd.R_far (p := ⟨gb258, 0, none⟩) (Kd.R_types HO276.out BK258.out (by decide)) (fun _ hk => by first | exact hk.2 | grind) (.slice Ao59 t274.length co59)) (fun _ hk => by first | exact trivial | grind), bf_ HB⟩
       ·rw [if_neg c41] at H
        exact absurd H (by simp)
      ·rw [if_neg c40] at H
       exact absurd H (by simp)

end Go.Proofs.Ytnklakficjpmoaa.PFnHeapBook
