-- printed by a program of this session (wip/printx) out of the translation; Lean checks it
import Derived.Test.YtnklakficjpmoaaVFnHeapBook
import Derived.Test.YtnklakficjpmoaaPFnHeapBookx0
import Derived.Test.YtnklakficjpmoaaPFnHeapBookx2
namespace Go.Proofs.Ytnklakficjpmoaa.PFnHeapBook
open Go.RowKit Go.Proofs.YtnklakficjpmoaaW.PrintWords Go.Proofs.YtnklakficjpmoaaW.PrintLast Go.Proofs.YtnklakficjpmoaaW.PrintMore
attribute [local go_sem] max2_int min2_int max_two min_two max_three min_three max_four min_four   -- for this text's walks alone
set_option linter.unusedVariables false
set_option linter.unusedSimpArgs false

/-! ### impl_HeapOk: function 41 -/
def impl_HeapOk.l0 : Nat → List (S68) → Int → Int → List (S68) → Option (Bool)
  | 0, _, _, _, _ => none
  | k + 1, x6, x7, x8, x109000 => if x8 < x7 then (if 0 ≤ x8 then (if x8 < (x6.length : Int) then ((impl_ItemOk.f ((rd_T68 x6 x8).f0) ((rd_T68 x6 x8).f1)).bind fun t111 => (if t111 = true then ((impl_Heap_place.f x109000 ((rd_T68 x6 x8).f1)).bind fun t112 => (if t112 = x8 then (if x8 > 0 then (if 0 ≤ (wrap64 (Int.tdiv (wrap64 (x8 - 1)) 2)) then (if (wrap64 (Int.tdiv (wrap64 (x8 - 1)) 2)) < (x109000.length : Int) then ((impl_Ahead.f ((rd_T68 x6 x8).f0) ((rd_T68 x6 x8).f1) ((rd_T68 x109000 (wrap64 (Int.tdiv (wrap64 (x8 - 1)) 2))).f0) ((rd_T68 x109000 (wrap64 (Int.tdiv (wrap64 (x8 - 1)) 2))).f1)).bind fun t114 => (if t114 = true then (some false) else (impl_HeapOk.l0 k x6 x7 (wrap64 (x8 + 1)) x109000))) else (none)) else (none)) else (impl_HeapOk.l0 k x6 x7 (wrap64 (x8 + 1)) x109000)) else (some false))) else (some false))) else (none)) else (none)) else (some (decide ((x109000.length : Int) ≤ 64)))
def impl_HeapOk.f (k : Nat) (l0_0 : List (S68)) : Option (Bool) := impl_HeapOk.l0 k l0_0 (l0_0.length : Int) 0 l0_0
theorem impl_HeapOk.mono_l : ∀ k, (∀ y0 y1 y2 y3, LeO (impl_HeapOk.l0 k y0 y1 y2 y3) (impl_HeapOk.l0 (k + 1) y0 y1 y2 y3))
 | 0 => fun _ _ _ _ r h => by simp [impl_HeapOk.l0] at h
 | k + 1 => by
  have ih0 := impl_HeapOk.mono_l k
  ·intro y0 y1 y2 y3
   unfold impl_HeapOk.l0
   repeat' (first | (with_reducible exact ih0 ..) | (with_reducible exact LeO.refl _) | (with_reducible exact LeO.none _) | (with_reducible refine LeO.ite ?_ ?_) | (with_reducible refine LeO.bind ?_ (fun _ => ?_)) | exact ih0 .. | exact LeO.none _ | refine LeO.ite ?_ ?_ | refine LeO.bind ?_ (fun _ => ?_))
theorem impl_HeapOk.mono : ∀ a0 k, LeO (impl_HeapOk.f k a0) (impl_HeapOk.f (k + 1) a0) := by
 intro a0 k
 have ih0 := impl_HeapOk.mono_l k
 unfold impl_HeapOk.f
 repeat' (first | (with_reducible exact ih0 ..) | (with_reducible exact LeO.refl _) | (with_reducible exact LeO.none _) | (with_reducible refine LeO.ite ?_ ?_) | (with_reducible refine LeO.bind ?_ (fun _ => ?_)) | exact ih0 .. | exact LeO.none _ | refine LeO.ite ?_ ?_ | refine LeO.bind ?_ (fun _ => ?_))
def impl_HeapOk.T4 : Bool × List (List Nat × List Nat) := (true, [([], []), ([0], [0]), ([1], [1]), ([2, 1], [2]), ([3], [3]), ([3], [3]), ([5, 3], [3, 5]), ([4, 6, 3, 3], [3, 4, 6]), ([3], [3]), ([7, 8, 3], [3, 7, 8]), ([3, 9], [3, 9]), ([10, 7], [10]), ([11], [11]), ([12, 11], [11, 12]), ([13, 11, 11], [11, 13]), ([14], [14]), ([14], [14]), ([16, 14], [14, 16]), ([14], [14]), ([18, 14], [14, 18]), ([19, 14], [14, 19]), ([17, 20, 14], [14, 17, 20]), ([21, 14], [14, 21]), ([15, 22, 14, 14], [14, 15, 22]), ([14, 23, 11], [11, 14, 23]), ([11, 24], [11, 24])])
def impl_HeapOk.B4 : List Nat := [0, 1, 3, 7, 15, 15, 47, 127, 15, 511, 1023, 2047, 4095, 8191, 16383, 32767, 32767, 98303, 32767, 294911, 819199, 2064383, 4161535, 8388607, 16777215, 33554431]
theorem impl_HeapOk.tab4 : rtab .any (opsOf Try.f41 4) = impl_HeapOk.T4 := by kernel_rfl
theorem impl_HeapOk.bits4 : waitsOk impl_HeapOk.T4.2 impl_HeapOk.B4 = true := by kernel_rfl
set_option maxHeartbeats 8000000 in
set_option maxRecDepth 100000 in
theorem impl_HeapOk.calls (k : Nat) (A0_0 : Option Addr) (c0_0 : Nat) (l0_0 : List (S68)) (r : Bool) (w : World) (hr0_0 : Kd.C k68 w A0_0 l0_0.length l0_0) (hc0_0 : l0_0.length ≤ c0_0) (h : impl_HeapOk.f k l0_0 = some r) :
  Calls Try.prog 41 #[.agg #[.slice A0_0 l0_0.length c0_0]] w fun e w' => e = .returned (.bool r) ∧ Below w.heap.size w w' := by
 have hu29 := Try.underlying29; have hu68 := Try.underlying68
 have HR0_0 := Aside0.mk hr0_0
 have HC0_0 := Aside0.mk hc0_0
 clear hr0_0 hc0_0; have HB := Aside0.mk (Below.refl w.heap.size w)
 have H := h
 clear h
 unfold impl_HeapOk.f at H
 have H' := Aside0.mk H
 clear H
 go_enter Try.func41, Try.ntmps41
 go_wp2_with (first | ((with_reducible refine gd_ 1 rfl ?_); refine bv_ 1 #[.slice A0_0 l0_0.length c0_0] 29 ?_; intro gb108 hg w2 hbox hb; have BK108 := Aside0.mk (hbox); have GW108 := gw_ HB hg; have GE108 := gw_ HB hg; replace HB := Aside0.mk (below_step (be_ HB) hb); clear hb hbox hg; obtain ⟨hcz3_0, hfz3_0⟩ := bz1_ BK108))
 (try simp only [Act.put, ls0_, ls1_, ls2_])
 go_loopg [8] k (fun kq v8 w' => ∃ (x8_1 : Int), v8 = .int .i64 x8_1 ∧ Aside0 (impl_HeapOk.l0 kq l0_0 (l0_0.length : Int) x8_1 l0_0 = some r) ∧ Aside0 (kq ≤ k) ∧ Aside0 (w'.heap[gb108]? = some (.cells #[(.slice A0_0 l0_0.length c0_0)] 29 (0, 0))) ∧ Aside0 (Below w.heap.size w w'))
 case atStart => exact ⟨(0), (by first | rfl | (simp; done) | (simp [*]; done)), H', ⟨Nat.le_refl _⟩, ⟨bk_ BK108⟩, ⟨bf_ HB⟩⟩
 case round =>
  clear H'
  (try clear p2); (try clear hcz3_0 hfz3_0)
  obtain ⟨x8_1, rfl, HA, HK1, BK108, HB⟩ := hrel
  cases gk with
  | zero => exact absurd HA.out (by simp [impl_HeapOk.l0])
  | succ k1 =>
   have H := HA.out
   clear HA
   simp only [impl_HeapOk.l0] at H
   by_cases c4 : x8_1 < (l0_0.length : Int)
   ·rw [if_pos c4] at H
    have c4b0 : decide (x8_1 < (l0_0.length : Int)) = true := decide_eq_true c4
    clear c4
    by_cases c5 : 0 ≤ x8_1
    ·rw [if_pos c5] at H
     have c5b0 : decide (0 ≤ x8_1) = true := decide_eq_true c5
     clear c5
     by_cases c6 : x8_1 < (l0_0.length : Int)
     ·rw [if_pos c6] at H
      have c6b0 : decide (x8_1 < (l0_0.length : Int)) = true := decide_eq_true c6
      clear c6
      replace H := Option.bind_eq_some_iff.mp H
      obtain ⟨t111, A70, H⟩ := H
      have A7 := Aside0.mk A70
      clear A70
      by_cases c8 : t111 = true
      ·subst c8
       rw [if_pos rfl] at H
       replace H := Option.bind_eq_some_iff.mp H
       obtain ⟨t112, A90, H⟩ := H
       have A9 := Aside0.mk A90
       clear A90
       by_cases c10 : t112 = x8_1
       ·rw [if_pos c10] at H
        have c10b0 : (t112 == x8_1) = true := beq_iff_eq.mpr c10
        have c10b1 : (t112 != x8_1) = false := bne_eq_false_iff_eq.mpr c10
        clear c10
        by_cases c11 : x8_1 > 0
        ·rw [if_pos c11] at H
         have c11b0 : decide (0 < x8_1) = true := decide_eq_true c11
         clear c11
         obtain ⟨ji12, hji12⟩ : ∃ j_ : Int, (wrap64 (Int.tdiv (wrap64 (x8_1 - 1)) 2)) = j_ := ⟨_, rfl⟩
         replace H : (if 0 ≤ (ji12) then (if (ji12) < (l0_0.length : Int) then ((impl_Ahead.f ((rd_T68 l0_0 x8_1).f0) ((rd_T68 l0_0 x8_1).f1) ((rd_T68 l0_0 (ji12)).f0) ((rd_T68 l0_0 (ji12)).f1)).bind fun t114 => (if t114 = true then (some false) else (impl_HeapOk.l0 k1 l0_0 (l0_0.length : Int) (wrap64 (x8_1 + 1)) l0_0))) else (none)) else (none)) = some r := by first | (rw [hji12] at H; exact H) | (simp only [hji12] at H ⊢; exact H)
         (try rw [hji12] at A7)
         (try rw [hji12] at A9)
         have hji12w : (IntKind.i64.wrap (Int.tdiv (wrap64 (x8_1 - 1)) 2)) = ji12 := (i64_w _).trans hji12
         by_cases c13 : 0 ≤ (ji12)
         ·rw [if_pos c13] at H
          have c13b0 : decide (0 ≤ (ji12)) = true := decide_eq_true c13
          clear c13
          by_cases c14 : (ji12) < (l0_0.length : Int)
          ·rw [if_pos c14] at H
           have c14b0 : decide ((ji12) < (l0_0.length : Int)) = true := decide_eq_true c14
           clear c14
           replace H := Option.bind_eq_some_iff.mp H
           obtain ⟨t114, A150, H⟩ := H
           have A15 := Aside0.mk A150
           clear A150
           by_cases c16 : t114 = true
           ·subst c16
            rw [if_pos rfl] at H
            obtain rfl := Option.some.inj H
            have p109 : 0 ≤ (x8_1 : Int) := od_
            have q109 : x8_1 < (l0_0.length : Int) := od_
            obtain ⟨ad109, e109, hx109_0, hx109_1⟩ := at_T68 HR0_0.out x8_1 p109 q109
            cases e109
            replace hx109_0 := hb_ HB hx109_0
            replace hx109_1 := hb_ HB hx109_1
            replace p109 := eq_true p109
            replace q109 := eq_true q109
            try go_wp2_with (first | ((with_reducible refine gd_ 4 rfl ?_); refine bv_ 4 #[.int .i64 0, .int .i64 0] 68 ?_; intro gb110 hg w17 hbox hb; have BK110 := Aside0.mk (hbox); have GW110 := gw_ HB hg; have GE110 := gw_ HB hg; replace HB := Aside0.mk (below_step (bf_ HB) hb); have NB108_110 := nl_ BK108 hg; have NB110_108 := ng_ BK108 hg; replace BK108 := bb_ BK108 hb; clear hb hbox hg; have hnb18 := NB110_108.out; have hnc18 := NB108_110.out; obtain ⟨hcz19_0, hcz19_1, hfz19_0, hfz19_1⟩ := bz2_ BK110))
            generalize hW_ : ((w17.setCell ⟨gb110, 0, none⟩ (.int .i64 ((rd_T68 l0_0 x8_1).f0))).setCell ⟨gb110, 1, none⟩ (.int .i64 ((rd_T68 l0_0 x8_1).f1))) = w20
            replace BK108 := fc2_ hW_ BK108 NB108_110
            replace BK110 : Aside0 (w20.heap[gb110]? = some (.cells #[.int .i64 ((rd_T68 l0_0 x8_1).f0), .int .i64 ((rd_T68 l0_0 x8_1).f1)] 68 (0, 0))) := pc2_ hW_ BK110
            replace HB : Aside0 (Below w.heap.size w w20) := ⟨by cases hW_; exact bf_ HB⟩
            clear hW_; replace BK108 := Aside0.mk (blk_drew BK108.out); replace BK110 := Aside0.mk (blk_drew BK110.out); replace HB := Aside0.mk (below_drew1 HB.out)
            have p113 : 0 ≤ ((ji12) : Int) := od_
            have q113 : (ji12) < (l0_0.length : Int) := od_
            obtain ⟨ad113, e113, hx113_0, hx113_1⟩ := at_T68 HR0_0.out (ji12) p113 q113
            have hw113_1 := hx113_1; have hw113_0 := hx113_0
            obtain rfl : ad109 = ad113 := (by injection e113)
            replace hx113_0 := hb_ HB hx113_0
            replace hx113_1 := hb_ HB hx113_1
            replace p113 := eq_true p113
            replace q113 := eq_true q113
            refine start_ (n := 26) (S := fun w' => cw_ w' gb110 0 (.int .i64 ((rd_T68 l0_0 x8_1).f0)) ∧ cw_ w' gb110 1 (.int .i64 ((rd_T68 l0_0 x8_1).f1)) ∧ cw_ w' gb108 0 (.slice (some ad109) l0_0.length c0_0) ∧ w'.cell? (ad109.add (((ji12)).toNat * 2)) = some (.int .i64 ((rd_T68 l0_0 (ji12)).f0)) ∧ w'.cell? ⟨(ad109.add (((ji12)).toNat * 2)).block, (ad109.add (((ji12)).toNat * 2)).off + 1, none⟩ = some (.int .i64 ((rd_T68 l0_0 (ji12)).f1))) (ds := []) (bs 26 0) (by kernel_rfl) rfl rfl ⟨bt_ BK110 0, bt_ BK110 1, bt_ BK108 0, (hd_ HB hw113_0), (hd_ HB hw113_1)⟩ (fun hHeld => ?_); refine with_tabW impl_HeapOk.tab4 impl_HeapOk.bits4 (fun HT_ HW_ => ?_)
            generalize w20.drew = w21 at BK108 BK110 HB hx113_0 hx113_1 hHeld ⊢
            refine tkn_ HT_ HW_ hHeld ?_
            refine on_ 1 (some 14) (bs 26 2) HT_ (fun K hK => ?_)
            refine gs_ Try.func101 #[.agg #[.int .i64 ((rd_T68 l0_0 x8_1).f0), .int .i64 ((rd_T68 l0_0 x8_1).f1)]] ?_
            with_reducible refine (impl_ItemOk.calls ((rd_T68 l0_0 x8_1).f0) ((rd_T68 l0_0 x8_1).f1) true _ A7.out).mono ?_
            rintro e w22 ⟨rfl, hb⟩
            refine ⟨_, rfl, ?_⟩
            replace BK108 := bb_ BK108 hb; replace BK110 := bb_ BK110 hb; replace HB := Aside0.mk (below_step (bf_ HB) hb); (try clear hb); (try clear hb2); (try clear hk); (try clear hi)
            refine hK.out _ _ ⟨bt_ BK110 0, bt_ BK110 1, bt_ BK108 0, (hd_ HB hw113_0), (hd_ HB hw113_1)⟩ (fun hHeld => ?_)
            clear hK K
            refine norm_ (a' := ?_) ?_ ?_
            rotate_left
            ·show Act.put _ (some 14) _ = _
             simp only [Act.put, ls0_, ls1_, ls2_, i64_w, i32_w]
             rfl
            iterate 2 (refine psn_ HT_ ?_)
            refine ps_ 5 18 (bm 26 47) HT_ ?_
            refine ps_ 8 21 (bm 26 303) HT_ ?_
            refine tk_ 4 17 (bm 26 319) HT_ HW_ hHeld ?_
            refine tk_ 6 19 (bm 26 383) HT_ HW_ hHeld ?_
            refine on_ 7 (some 20) (bs 26 9) HT_ (fun K hK => ?_)
            refine gs_ Try.func95 #[.agg #[.slice (some ad109) l0_0.length c0_0], .int .i64 ((rd_T68 l0_0 x8_1).f1)] ?_
            with_reducible refine (impl_Heap_place.calls _ _ l0_0 ((rd_T68 l0_0 x8_1).f1) t112 _ ?side1 ?side2 A9.out).mono ?_
            (case side1 => repeat (first | exact (Kd.C_below HR0_0.out HB.out) | (with_reducible refine Kd.C_alloc ?_ _) | (with_reducible refine Kd.C_drewN ?_ _) | (with_reducible refine Kd.C_drew ?_)))
            (case side2 => exact HC0_0.out)
            rintro e w23 ⟨rfl, hb⟩
            refine ⟨_, rfl, ?_⟩
            replace BK108 := bb_ BK108 hb; replace BK110 := bb_ BK110 hb; replace HB := Aside0.mk (below_step (bf_ HB) hb); (try clear hb); (try clear hb2); (try clear hk); (try clear hi)
            refine hK.out _ _ ⟨bt_ BK110 0, bt_ BK110 1, bt_ BK108 0, (hd_ HB hw113_0), (hd_ HB hw113_1)⟩ (fun hHeld => ?_)
            clear hK K
            refine norm_ (a' := ?_) ?_ ?_
            rotate_left
            ·show Act.put _ (some 20) _ = _
             simp only [Act.put, ls0_, ls1_, ls2_, i64_w, i32_w]
             rfl
            iterate 6 (refine psn_ HT_ ?_)
            refine ps_ 16 29 (bm 26 98303) HT_ ?_
            refine ps_ 18 31 (bm 26 360447) HT_ ?_
            refine ps_ 19 32 (bm 26 884735) HT_ ?_
            refine ps_ 20 33 (bm 26 1933311) HT_ ?_
            refine tk_ 15 28 (bm 26 1966079) HT_ HW_ hHeld ?_
            refine tk_ 17 30 (bs 26 21) HT_ HW_ hHeld ?_
            refine psn_ HT_ ?_
            refine tkn_ HT_ HW_ hHeld ?_
            refine on_ 23 (some 36) (bs 26 24) HT_ (fun K hK => ?_)
            refine goes_ Try.func68 (by kernel_rfl) rfl #[.agg #[.int .i64 ((rd_T68 l0_0 x8_1).f0), .int .i64 ((rd_T68 l0_0 x8_1).f1)], .agg #[.int .i64 ((rd_T68 l0_0 (ji12)).f0), .int .i64 ((rd_T68 l0_0 (ji12)).f1)]] (by rfl) rfl rfl (by (try simp only [List.map_toArray, List.map_cons, List.map_nil]); first | done | (simp only [hji12]; rfl) | rfl | (simp only [List.length_drop, List.length_take]; rfl)) ?_
            with_reducible refine (impl_Ahead.calls ((rd_T68 l0_0 x8_1).f0) ((rd_T68 l0_0 x8_1).f1) ((rd_T68 l0_0 (ji12)).f0) ((rd_T68 l0_0 (ji12)).f1) true _ A15.out).mono ?_
            rintro e w24 ⟨rfl, hb⟩
            refine ⟨_, rfl, ?_⟩
            replace BK108 := bb_ BK108 hb; replace BK110 := bb_ BK110 hb; replace HB := Aside0.mk (below_step (bf_ HB) hb); (try clear hb); (try clear hb2); (try clear hk); (try clear hi)
            refine hK.out _ _ ⟨bt_ BK110 0, bt_ BK110 1, bt_ BK108 0, (hd_ HB hw113_0), (hd_ HB hw113_1)⟩ (fun hHeld => ?_)
            clear hK K
            refine norm_ (a' := ?_) ?_ ?_
            rotate_left
            ·show Act.put _ (some 36) _ = _
             simp only [Act.put, ls0_, ls1_, ls2_, i64_w, i32_w]
             rfl
            iterate 2 (refine psn_ HT_ ?_)
            refine done_ (done_of HT_.out (by kernel_rfl)) ?_
            try go_wp2
            go_ret
            exact ⟨by first | rfl | (simp [errW_none, errW_some] <;> rfl) | (simp only [← hji12]; first | rfl | (simp [errW_none, errW_some] <;> rfl)) | (simp [*, errW_none, errW_some] <;> rfl), bf_ HB⟩
           ·replace c16 := Bool.eq_false_iff.mpr c16
            subst c16
            rw [if_neg (show ¬ (false = true) by decide)] at H
            have H' := Aside0.mk H
            clear H
            have p109 : 0 ≤ (x8_1 : Int) := od_
            have q109 : x8_1 < (l0_0.length : Int) := od_
            obtain ⟨ad109, e109, hx109_0, hx109_1⟩ := at_T68 HR0_0.out x8_1 p109 q109
            cases e109
            replace hx109_0 := hb_ HB hx109_0
            replace hx109_1 := hb_ HB hx109_1
            replace p109 := eq_true p109
            replace q109 := eq_true q109
            try go_wp2_with (first | ((with_reducible refine gd_ 4 rfl ?_); refine bv_ 4 #[.int .i64 0, .int .i64 0] 68 ?_; intro gb110 hg w25 hbox hb; have BK110 := Aside0.mk (hbox); have GW110 := gw_ HB hg; have GE110 := gw_ HB hg; replace HB := Aside0.mk (below_step (bf_ HB) hb); have NB108_110 := nl_ BK108 hg; have NB110_108 := ng_ BK108 hg; replace BK108 := bb_ BK108 hb; clear hb hbox hg; have hnb26 := NB110_108.out; have hnc26 := NB108_110.out; obtain ⟨hcz27_0, hcz27_1, hfz27_0, hfz27_1⟩ := bz2_ BK110))
            generalize hW_ : ((w25.setCell ⟨gb110, 0, none⟩ (.int .i64 ((rd_T68 l0_0 x8_1).f0))).setCell ⟨gb110, 1, none⟩ (.int .i64 ((rd_T68 l0_0 x8_1).f1))) = w28
            replace BK108 := fc2_ hW_ BK108 NB108_110
            replace BK110 : Aside0 (w28.heap[gb110]? = some (.cells #[.int .i64 ((rd_T68 l0_0 x8_1).f0), .int .i64 ((rd_T68 l0_0 x8_1).f1)] 68 (0, 0))) := pc2_ hW_ BK110
            replace HB : Aside0 (Below w.heap.size w w28) := ⟨by cases hW_; exact bf_ HB⟩
            clear hW_; replace BK108 := Aside0.mk (blk_drew BK108.out); replace BK110 := Aside0.mk (blk_drew BK110.out); replace HB := Aside0.mk (below_drew1 HB.out)
            have p113 : 0 ≤ ((ji12) : Int) := od_
            have q113 : (ji12) < (l0_0.length : Int) := od_
            obtain ⟨ad113, e113, hx113_0, hx113_1⟩ := at_T68 HR0_0.out (ji12) p113 q113
            have hw113_1 := hx113_1; have hw113_0 := hx113_0
            obtain rfl : ad109 = ad113 := (by injection e113)
            replace hx113_0 := hb_ HB hx113_0
            replace hx113_1 := hb_ HB hx113_1
            replace p113 := eq_true p113
            replace q113 := eq_true q113
            refine start_ (n := 26) (S := fun w' => cw_ w' gb110 0 (.int .i64 ((rd_T68 l0_0 x8_1).f0)) ∧ cw_ w' gb110 1 (.int .i64 ((rd_T68 l0_0 x8_1).f1)) ∧ cw_ w' gb108 0 (.slice (some ad109) l0_0.length c0_0) ∧ w'.cell? (ad109.add (((ji12)).toNat * 2)) = some (.int .i64 ((rd_T68 l0_0 (ji12)).f0)) ∧ w'.cell? ⟨(ad109.add (((ji12)).toNat * 2)).block, (ad109.add (((ji12)).toNat * 2)).off + 1, none⟩ = some (.int .i64 ((rd_T68 l0_0 (ji12)).f1))) (ds := []) (bs 26 0) (by kernel_rfl) rfl rfl ⟨bt_ BK110 0, bt_ BK110 1, bt_ BK108 0, (hd_ HB hw113_0), (hd_ HB hw113_1)⟩ (fun hHeld => ?_); refine with_tabW impl_HeapOk.tab4 impl_HeapOk.bits4 (fun HT_ HW_ => ?_)
            generalize w28.drew = w29 at BK108 BK110 HB hx113_0 hx113_1 hHeld ⊢
            refine tkn_ HT_ HW_ hHeld ?_
            refine on_ 1 (some 14) (bs 26 2) HT_ (fun K hK => ?_)
            refine gs_ Try.func101 #[.agg #[.int .i64 ((rd_T68 l0_0 x8_1).f0), .int .i64 ((rd_T68 l0_0 x8_1).f1)]] ?_
            with_reducible refine (impl_ItemOk.calls ((rd_T68 l0_0 x8_1).f0) ((rd_T68 l0_0 x8_1).f1) true _ A7.out).mono ?_
            rintro e w30 ⟨rfl, hb⟩
            refine ⟨_, rfl, ?_⟩
            replace BK108 := bb_ BK108 hb; replace BK110 := bb_ BK110 hb; replace HB := Aside0.mk (below_step (bf_ HB) hb); (try clear hb); (try clear hb2); (try clear hk); (try clear hi)
            refine hK.out _ _ ⟨bt_ BK110 0, bt_ BK110 1, bt_ BK108 0, (hd_ HB hw113_0), (hd_ HB hw113_1)⟩ (fun hHeld => ?_)
            clear hK K
            refine norm_ (a' := ?_) ?_ ?_
            rotate_left
            ·show Act.put _ (some 14) _ = _
             simp only [Act.put, ls0_, ls1_, ls2_, i64_w, i32_w]
             rfl
            iterate 2 (refine psn_ HT_ ?_)
            refine ps_ 5 18 (bm 26 47) HT_ ?_
            refine ps_ 8 21 (bm 26 303) HT_ ?_
            refine tk_ 4 17 (bm 26 319) HT_ HW_ hHeld ?_
            refine tk_ 6 19 (bm 26 383) HT_ HW_ hHeld ?_
            refine on_ 7 (some 20) (bs 26 9) HT_ (fun K hK => ?_)
            refine gs_ Try.func95 #[.agg #[.slice (some ad109) l0_0.length c0_0], .int .i64 ((rd_T68 l0_0 x8_1).f1)] ?_
            with_reducible refine (impl_Heap_place.calls _ _ l0_0 ((rd_T68 l0_0 x8_1).f1) t112 _ ?side1 ?side2 A9.out).mono ?_
            (case side1 => repeat (first | exact (Kd.C_below HR0_0.out HB.out) | (with_reducible refine Kd.C_alloc ?_ _) | (with_reducible refine Kd.C_drewN ?_ _) | (with_reducible refine Kd.C_drew ?_)))
            (case side2 => exact HC0_0.out)
            rintro e w31 ⟨rfl, hb⟩
            refine ⟨_, rfl, ?_⟩
            replace BK108 := bb_ BK108 hb; replace BK110 := bb_ BK110 hb; replace HB := Aside0.mk (below_step (bf_ HB) hb); (try clear hb); (try clear hb2); (try clear hk); (try clear hi)
            refine hK.out _ _ ⟨bt_ BK110 0, bt_ BK110 1, bt_ BK108 0, (hd_ HB hw113_0), (hd_ HB hw113_1)⟩ (fun hHeld => ?_)
            clear hK K
            refine norm_ (a' := ?_) ?_ ?_
            rotate_left
            ·show Act.put _ (some 20) _ = _
             simp only [Act.put, ls0_, ls1_, ls2_, i64_w, i32_w]
             rfl
            iterate 6 (refine psn_ HT_ ?_)
            refine ps_ 16 29 (bm 26 98303) HT_ ?_
            refine ps_ 18 31 (bm 26 360447) HT_ ?_
            refine ps_ 19 32 (bm 26 884735) HT_ ?_
            refine ps_ 20 33 (bm 26 1933311) HT_ ?_
            refine tk_ 15 28 (bm 26 1966079) HT_ HW_ hHeld ?_
            refine tk_ 17 30 (bs 26 21) HT_ HW_ hHeld ?_
            refine psn_ HT_ ?_
            refine tkn_ HT_ HW_ hHeld ?_
            refine on_ 23 (some 36) (bs 26 24) HT_ (fun K hK => ?_)
            refine goes_ Try.func68 (by kernel_rfl) rfl #[.agg #[.int .i64 ((rd_T68 l0_0 x8_1).f0), .int .i64 ((rd_T68 l0_0 x8_1).f1)], .agg #[.int .i64 ((rd_T68 l0_0 (ji12)).f0), .int .i64 ((rd_T68 l0_0 (ji12)).f1)]] (by rfl) rfl rfl (by (try simp only [List.map_toArray, List.map_cons, List.map_nil]); first | done | (simp only [hji12]; rfl) | rfl | (simp only [List.length_drop, List.length_take]; rfl)) ?_
            with_reducible refine (impl_Ahead.calls ((rd_T68 l0_0 x8_1).f0) ((rd_T68 l0_0 x8_1).f1) ((rd_T68 l0_0 (ji12)).f0) ((rd_T68 l0_0 (ji12)).f1) false _ A15.out).mono ?_
            rintro e w32 ⟨rfl, hb⟩
            refine ⟨_, rfl, ?_⟩
            replace BK108 := bb_ BK108 hb; replace BK110 := bb_ BK110 hb; replace HB := Aside0.mk (below_step (bf_ HB) hb); (try clear hb); (try clear hb2); (try clear hk); (try clear hi)
            refine hK.out _ _ ⟨bt_ BK110 0, bt_ BK110 1, bt_ BK108 0, (hd_ HB hw113_0), (hd_ HB hw113_1)⟩ (fun hHeld => ?_)
            clear hK K
            refine norm_ (a' := ?_) ?_ ?_
            rotate_left
            ·show Act.put _ (some 36) _ = _
             simp only [Act.put, ls0_, ls1_, ls2_, i64_w, i32_w]
             rfl
            iterate 2 (refine psn_ HT_ ?_)
            refine done_ (done_of HT_.out (by kernel_rfl)) ?_
            try go_wp2
            go_roundg k1
            case measure => have := HK1.out; omega
            case rel => exact ⟨(wrap64 (x8_1 + 1)), (by first | rfl | (simp; done) | (simp [*]; done)), H', ⟨by have := HK1.out; omega⟩, ⟨bk_ BK108⟩, ⟨bf_ HB⟩⟩
          ·rw [if_neg c14] at H
           exact absurd H (by simp)
         ·rw [if_neg c13] at H
          exact absurd H (by simp)
        ·rw [if_neg c11] at H
         have c11b0 : decide (0 < x8_1) = false := decide_eq_false c11
         clear c11
         have H' := Aside0.mk H
         clear H
         have p109 : 0 ≤ (x8_1 : Int) := od_
         have q109 : x8_1 < (l0_0.length : Int) := od_
         obtain ⟨ad109, e109, hx109_0, hx109_1⟩ := at_T68 HR0_0.out x8_1 p109 q109
         cases e109
         replace hx109_0 := hb_ HB hx109_0
         replace hx109_1 := hb_ HB hx109_1
         replace p109 := eq_true p109
         replace q109 := eq_true q109
         try go_wp2_with (first | ((with_reducible refine gd_ 4 rfl ?_); refine bv_ 4 #[.int .i64 0, .int .i64 0] 68 ?_; intro gb110 hg w33 hbox hb; have BK110 := Aside0.mk (hbox); have GW110 := gw_ HB hg; have GE110 := gw_ HB hg; replace HB := Aside0.mk (below_step (bf_ HB) hb); have NB108_110 := nl_ BK108 hg; have NB110_108 := ng_ BK108 hg; replace BK108 := bb_ BK108 hb; clear hb hbox hg; have hnb34 := NB110_108.out; have hnc34 := NB108_110.out; obtain ⟨hcz35_0, hcz35_1, hfz35_0, hfz35_1⟩ := bz2_ BK110))
         generalize hW_ : ((w33.setCell ⟨gb110, 0, none⟩ (.int .i64 ((rd_T68 l0_0 x8_1).f0))).setCell ⟨gb110, 1, none⟩ (.int .i64 ((rd_T68 l0_0 x8_1).f1))) = w36
         replace BK108 := fc2_ hW_ BK108 NB108_110
         replace BK110 : Aside0 (w36.heap[gb110]? = some (.cells #[.int .i64 ((rd_T68 l0_0 x8_1).f0), .int .i64 ((rd_T68 l0_0 x8_1).f1)] 68 (0, 0))) := pc2_ hW_ BK110
         replace HB : Aside0 (Below w.heap.size w w36) := ⟨by cases hW_; exact bf_ HB⟩
         clear hW_; replace BK108 := Aside0.mk (blk_drew BK108.out); replace BK110 := Aside0.mk (blk_drew BK110.out); replace HB := Aside0.mk (below_drew1 HB.out)
         refine start_ (n := 26) (S := fun w' => cw_ w' gb110 0 (.int .i64 ((rd_T68 l0_0 x8_1).f0)) ∧ cw_ w' gb110 1 (.int .i64 ((rd_T68 l0_0 x8_1).f1)) ∧ cw_ w' gb108 0 (.slice (some ad109) l0_0.length c0_0)) (ds := []) (bs 26 0) (by kernel_rfl) rfl rfl ⟨bt_ BK110 0, bt_ BK110 1, bt_ BK108 0⟩ (fun hHeld => ?_); refine with_tabW impl_HeapOk.tab4 impl_HeapOk.bits4 (fun HT_ HW_ => ?_)
         generalize w36.drew = w37 at BK108 BK110 HB hHeld ⊢
         refine tkn_ HT_ HW_ hHeld ?_
         refine on_ 1 (some 14) (bs 26 2) HT_ (fun K hK => ?_)
         refine gs_ Try.func101 #[.agg #[.int .i64 ((rd_T68 l0_0 x8_1).f0), .int .i64 ((rd_T68 l0_0 x8_1).f1)]] ?_
         with_reducible refine (impl_ItemOk.calls ((rd_T68 l0_0 x8_1).f0) ((rd_T68 l0_0 x8_1).f1) true _ A7.out).mono ?_
         rintro e w38 ⟨rfl, hb⟩
         refine ⟨_, rfl, ?_⟩
         replace BK108 := bb_ BK108 hb; replace BK110 := bb_ BK110 hb; replace HB := Aside0.mk (below_step (bf_ HB) hb); (try clear hb); (try clear hb2); (try clear hk); (try clear hi)
         refine hK.out _ _ ⟨bt_ BK110 0, bt_ BK110 1, bt_ BK108 0⟩ (fun hHeld => ?_)
         clear hK K
         refine norm_ (a' := ?_) ?_ ?_
         rotate_left
         ·show Act.put _ (some 14) _ = _
          simp only [Act.put, ls0_, ls1_, ls2_, i64_w, i32_w]
          rfl
         iterate 2 (refine psn_ HT_ ?_)
         refine ps_ 5 18 (bm 26 47) HT_ ?_
         refine ps_ 8 21 (bm 26 303) HT_ ?_
         refine tk_ 4 17 (bm 26 319) HT_ HW_ hHeld ?_
         refine tk_ 6 19 (bm 26 383) HT_ HW_ hHeld ?_
         refine on_ 7 (some 20) (bs 26 9) HT_ (fun K hK => ?_)
         refine gs_ Try.func95 #[.agg #[.slice (some ad109) l0_0.length c0_0], .int .i64 ((rd_T68 l0_0 x8_1).f1)] ?_
         with_reducible refine (impl_Heap_place.calls _ _ l0_0 ((rd_T68 l0_0 x8_1).f1) t112 _ ?side1 ?side2 A9.out).mono ?_
         (case side1 => repeat (first | exact (Kd.C_below HR0_0.out HB.out) | (with_reducible refine Kd.C_alloc ?_ _) | (with_reducible refine Kd.C_drewN ?_ _) | (with_reducible refine Kd.C_drew ?_)))
         (case side2 => exact HC0_0.out)
         rintro e w39 ⟨rfl, hb⟩
         refine ⟨_, rfl, ?_⟩
         replace BK108 := bb_ BK108 hb; replace BK110 := bb_ BK110 hb; replace HB := Aside0.mk (below_step (bf_ HB) hb); (try clear hb); (try clear hb2); (try clear hk); (try clear hi)
         refine hK.out _ _ ⟨bt_ BK110 0, bt_ BK110 1, bt_ BK108 0⟩ (fun hHeld => ?_)
         clear hK K
         refine norm_ (a' := ?_) ?_ ?_
         rotate_left
         ·show Act.put _ (some 20) _ = _
          simp only [Act.put, ls0_, ls1_, ls2_, i64_w, i32_w]
          rfl
         iterate 6 (refine psn_ HT_ ?_)
         iterate 9 (refine pun_ HT_ ?_)
         iterate 2 (refine psn_ HT_ ?_)
         refine done_ (done_of HT_.out (by kernel_rfl)) ?_
         try go_wp2
         go_roundg k1
         case measure => have := HK1.out; omega
         case rel => exact ⟨(wrap64 (x8_1 + 1)), (by first | rfl | (simp; done) | (simp [*]; done)), H', ⟨by have := HK1.out; omega⟩, ⟨bk_ BK108⟩, ⟨bf_ HB⟩⟩
       ·rw [if_neg c10] at H
        have c10b0 : (t112 == x8_1) = false := beq_eq_false_iff_ne.mpr c10
        have c10b1 : (t112 != x8_1) = true := bne_iff_ne.mpr c10
        obtain rfl := Option.some.inj H
        have p109 : 0 ≤ (x8_1 : Int) := od_
        have q109 : x8_1 < (l0_0.length : Int) := od_
        obtain ⟨ad109, e109, hx109_0, hx109_1⟩ := at_T68 HR0_0.out x8_1 p109 q109
        cases e109
        replace hx109_0 := hb_ HB hx109_0
        replace hx109_1 := hb_ HB hx109_1
        replace p109 := eq_true p109
        replace q109 := eq_true q109
        try go_wp2_with (first | ((with_reducible refine gd_ 4 rfl ?_); refine bv_ 4 #[.int .i64 0, .int .i64 0] 68 ?_; intro gb110 hg w40 hbox hb; have BK110 := Aside0.mk (hbox); have GW110 := gw_ HB hg; have GE110 := gw_ HB hg; replace HB := Aside0.mk (below_step (bf_ HB) hb); have NB108_110 := nl_ BK108 hg; have NB110_108 := ng_ BK108 hg; replace BK108 := bb_ BK108 hb; clear hb hbox hg; have hnb41 := NB110_108.out; have hnc41 := NB108_110.out; obtain ⟨hcz42_0, hcz42_1, hfz42_0, hfz42_1⟩ := bz2_ BK110))
        generalize hW_ : ((w40.setCell ⟨gb110, 0, none⟩ (.int .i64 ((rd_T68 l0_0 x8_1).f0))).setCell ⟨gb110, 1, none⟩ (.int .i64 ((rd_T68 l0_0 x8_1).f1))) = w43
        replace BK108 := fc2_ hW_ BK108 NB108_110
        replace BK110 : Aside0 (w43.heap[gb110]? = some (.cells #[.int .i64 ((rd_T68 l0_0 x8_1).f0), .int .i64 ((rd_T68 l0_0 x8_1).f1)] 68 (0, 0))) := pc2_ hW_ BK110
        replace HB : Aside0 (Below w.heap.size w w43) := ⟨by cases hW_; exact bf_ HB⟩
        clear hW_; replace BK108 := Aside0.mk (blk_drew BK108.out); replace BK110 := Aside0.mk (blk_drew BK110.out); replace HB := Aside0.mk (below_drew1 HB.out)
        refine start_ (n := 26) (S := fun w' => cw_ w' gb110 0 (.int .i64 ((rd_T68 l0_0 x8_1).f0)) ∧ cw_ w' gb110 1 (.int .i64 ((rd_T68 l0_0 x8_1).f1)) ∧ cw_ w' gb108 0 (.slice (some ad109) l0_0.length c0_0)) (ds := []) (bs 26 0) (by kernel_rfl) rfl rfl ⟨bt_ BK110 0, bt_ BK110 1, bt_ BK108 0⟩ (fun hHeld => ?_); refine with_tabW impl_HeapOk.tab4 impl_HeapOk.bits4 (fun HT_ HW_ => ?_)
        generalize w43.drew = w44 at BK108 BK110 HB hHeld ⊢
        refine tkn_ HT_ HW_ hHeld ?_
        refine on_ 1 (some 14) (bs 26 2) HT_ (fun K hK => ?_)
        refine gs_ Try.func101 #[.agg #[.int .i64 ((rd_T68 l0_0 x8_1).f0), .int .i64 ((rd_T68 l0_0 x8_1).f1)]] ?_
        with_reducible refine (impl_ItemOk.calls ((rd_T68 l0_0 x8_1).f0) ((rd_T68 l0_0 x8_1).f1) true _ A7.out).mono ?_
        rintro e w45 ⟨rfl, hb⟩
        refine ⟨_, rfl, ?_⟩
        replace BK108 := bb_ BK108 hb; replace BK110 := bb_ BK110 hb; replace HB := Aside0.mk (below_step (bf_ HB) hb); (try clear hb); (try clear hb2); (try clear hk); (try clear hi)
        refine hK.out _ _ ⟨bt_ BK110 0, bt_ BK110 1, bt_ BK108 0⟩ (fun hHeld => ?_)
        clear hK K
        refine norm_ (a' := ?_) ?_ ?_
        rotate_left
        ·show Act.put _ (some 14) _ = _
         simp only [Act.put, ls0_, ls1_, ls2_, i64_w, i32_w]
         rfl
        iterate 2 (refine psn_ HT_ ?_)
        refine ps_ 5 18 (bm 26 47) HT_ ?_
        refine ps_ 8 21 (bm 26 303) HT_ ?_
        refine tk_ 4 17 (bm 26 319) HT_ HW_ hHeld ?_
        refine tk_ 6 19 (bm 26 383) HT_ HW_ hHeld ?_
        refine on_ 7 (some 20) (bs 26 9) HT_ (fun K hK => ?_)
        refine gs_ Try.func95 #[.agg #[.slice (some ad109) l0_0.length c0_0], .int .i64 ((rd_T68 l0_0 x8_1).f1)] ?_
        with_reducible refine (impl_Heap_place.calls _ _ l0_0 ((rd_T68 l0_0 x8_1).f1) t112 _ ?side1 ?side2 A9.out).mono ?_
        (case side1 => repeat (first | exact (Kd.C_below HR0_0.out HB.out) | (with_reducible refine Kd.C_alloc ?_ _) | (with_reducible refine Kd.C_drewN ?_ _) | (with_reducible refine Kd.C_drew ?_)))
        (case side2 => exact HC0_0.out)
        rintro e w46 ⟨rfl, hb⟩
        refine ⟨_, rfl, ?_⟩
        replace BK108 := bb_ BK108 hb; replace BK110 := bb_ BK110 hb; replace HB := Aside0.mk (below_step (bf_ HB) hb); (try clear hb); (try clear hb2); (try clear hk); (try clear hi)
        refine hK.out _ _ ⟨bt_ BK110 0, bt_ BK110 1, bt_ BK108 0⟩ (fun hHeld => ?_)
        clear hK K
        refine norm_ (a' := ?_) ?_ ?_
        rotate_left
        ·show Act.put _ (some 20) _ = _
         simp only [Act.put, ls0_, ls1_, ls2_, i64_w, i32_w]
         rfl
        iterate 3 (refine psn_ HT_ ?_)
        iterate 13 (refine pun_ HT_ ?_)
        refine psn_ HT_ ?_
        refine done_ (done_of HT_.out (by kernel_rfl)) ?_
        try go_wp2
        go_ret
        exact ⟨by first | rfl | (simp [errW_none, errW_some] <;> rfl) | (simp [*, errW_none, errW_some] <;> rfl), bf_ HB⟩
      ·replace c8 := Bool.eq_false_iff.mpr c8
       subst c8
       rw [if_neg (show ¬ (false = true) by decide)] at H
       obtain rfl := Option.some.inj H
       have p109 : 0 ≤ (x8_1 : Int) := od_
       have q109 : x8_1 < (l0_0.length : Int) := od_
       obtain ⟨ad109, e109, hx109_0, hx109_1⟩ := at_T68 HR0_0.out x8_1 p109 q109
       cases e109
       replace hx109_0 := hb_ HB hx109_0
       replace hx109_1 := hb_ HB hx109_1
       replace p109 := eq_true p109
       replace q109 := eq_true q109
       try go_wp2_with (first | ((with_reducible refine gd_ 4 rfl ?_); refine bv_ 4 #[.int .i64 0, .int .i64 0] 68 ?_; intro gb110 hg w47 hbox hb; have BK110 := Aside0.mk (hbox); have GW110 := gw_ HB hg; have GE110 := gw_ HB hg; replace HB := Aside0.mk (below_step (bf_ HB) hb); have NB108_110 := nl_ BK108 hg; have NB110_108 := ng_ BK108 hg; replace BK108 := bb_ BK108 hb; clear hb hbox hg; have hnb48 := NB110_108.out; have hnc48 := NB108_110.out; obtain ⟨hcz49_0, hcz49_1, hfz49_0, hfz49_1⟩ := bz2_ BK110))
       generalize hW_ : ((w47.setCell ⟨gb110, 0, none⟩ (.int .i64 ((rd_T68 l0_0 x8_1).f0))).setCell ⟨gb110, 1, none⟩ (.int .i64 ((rd_T68 l0_0 x8_1).f1))) = w50
       replace BK108 := fc2_ hW_ BK108 NB108_110
       replace BK110 : Aside0 (w50.heap[gb110]? = some (.cells #[.int .i64 ((rd_T68 l0_0 x8_1).f0), .int .i64 ((rd_T68 l0_0 x8_1).f1)] 68 (0, 0))) := pc2_ hW_ BK110
       replace HB : Aside0 (Below w.heap.size w w50) := ⟨by cases hW_; exact bf_ HB⟩
       clear hW_; replace BK108 := Aside0.mk (blk_drew BK108.out); replace BK110 := Aside0.mk (blk_drew BK110.out); replace HB := Aside0.mk (below_drew1 HB.out)
       refine start_ (n := 26) (S := fun w' => cw_ w' gb110 0 (.int .i64 ((rd_T68 l0_0 x8_1).f0)) ∧ cw_ w' gb110 1 (.int .i64 ((rd_T68 l0_0 x8_1).f1))) (ds := []) (bs 26 0) (by kernel_rfl) rfl rfl ⟨bt_ BK110 0, bt_ BK110 1⟩ (fun hHeld => ?_); refine with_tabW impl_HeapOk.tab4 impl_HeapOk.bits4 (fun HT_ HW_ => ?_)
       generalize w50.drew = w51 at BK108 BK110 HB hHeld ⊢
       refine tkn_ HT_ HW_ hHeld ?_
       refine on_ 1 (some 14) (bs 26 2) HT_ (fun K hK => ?_)
       refine gs_ Try.func101 #[.agg #[.int .i64 ((rd_T68 l0_0 x8_1).f0), .int .i64 ((rd_T68 l0_0 x8_1).f1)]] ?_
       with_reducible refine (impl_ItemOk.calls ((rd_T68 l0_0 x8_1).f0) ((rd_T68 l0_0 x8_1).f1) false _ A7.out).mono ?_
       rintro e w52 ⟨rfl, hb⟩
       refine ⟨_, rfl, ?_⟩
       replace BK108 := bb_ BK108 hb; replace BK110 := bb_ BK110 hb; replace HB := Aside0.mk (below_step (bf_ HB) hb); (try clear hb); (try clear hb2); (try clear hk); (try clear hi)
       refine hK.out _ _ ⟨bt_ BK110 0, bt_ BK110 1⟩ (fun hHeld => ?_)
       clear hK K
       refine norm_ (a' := ?_) ?_ ?_
       rotate_left
       ·show Act.put _ (some 14) _ = _
        simp only [Act.put, ls0_, ls1_, ls2_, i64_w, i32_w]
        rfl
       iterate 2 (refine psn_ HT_ ?_)
       iterate 6 (refine pun_ HT_ ?_)
       iterate 2 (refine psn_ HT_ ?_)
       iterate 13 (refine pun_ HT_ ?_)
       refine psn_ HT_ ?_
       refine done_ (done_of HT_.out (by kernel_rfl)) ?_
       try go_wp2
       go_ret
       exact ⟨by first | rfl | (simp [errW_none, errW_some] <;> rfl) | (simp [*, errW_none, errW_some] <;> rfl), bf_ HB⟩
     ·rw [if_neg c6] at H
      exact absurd H (by simp)
    ·rw [if_neg c5] at H
     exact absurd H (by simp)
   ·rw [if_neg c4] at H
    have c4b0 : decide (x8_1 < (l0_0.length : Int)) = false := decide_eq_false c4
    clear c4
    obtain rfl := Option.some.inj H
    obtain ⟨hcz53_0, hfz53_0⟩ := bz1_ BK108
    go_wp2
    go_ret
    exact ⟨by first | rfl | (simp [errW_none, errW_some] <;> rfl) | (simp [*, errW_none, errW_some] <;> rfl), bf_ HB⟩

/-! ### impl_Item_65: function 65 -/
def impl_Item_65.f (l0 : List (S68)) : Option ((List (S68))) := (some (([] : List (S68)) : List (S68))).bind fun y115 => (if y115.length + l0.length < 8796093022208 then (some (y115 ++ l0)) else (none))
set_option maxHeartbeats 8000000 in
set_option maxRecDepth 100000 in
theorem impl_Item_65.calls_some (A0 : Addr) (c0 : Nat) (l0 : List (S68)) (r : List (S68)) (w : World) (hr0 : Kd.C k68 w (some A0) l0.length l0) (hc0 : l0.length ≤ c0) (h : impl_Item_65.f l0 = some r) :
  Calls Try.prog 65 #[.slice (some A0) l0.length c0] w fun e w' => ∃ v0_ : Value, e = .returned (v0_) ∧ Kd.R k68 68 w' w.heap.size (fun _ => True) v0_ r ∧ Below w.heap.size w w' := by
 have hnil0_ := fun (W : World) (n c : Nat) => Lib.run_eql_slice_nil (P := Try.prog) W 26 68 (some A0) n c 0 0 Try.underlying26
 have HR0 := Aside0.mk hr0
 have HC0 := Aside0.mk hc0
 clear hr0 hc0; have HB := Aside0.mk (Below.refl w.heap.size w)
 have H : ((some (([] : List (S68)) : List (S68))).bind fun y115 => (if y115.length + l0.length < 8796093022208 then (some (y115 ++ l0)) else (none))) = some r := h
 clear h
 obtain ⟨y115, hy115⟩ : ∃ y_ : List (S68), y_ = (([] : List (S68))) := ⟨_, rfl⟩
 replace H : (if y115.length + l0.length < 8796093022208 then (some (y115 ++ l0)) else (none)) = some r := by first | (rw [hy115]; with_reducible exact H) | (have H2_ := (Option.bind_some _ _).symm.trans H; rw [hy115]; with_reducible exact H2_) | (have H2_ := (Option.bind_some _ _).symm.trans H; with_reducible exact H2_) | with_reducible exact H | (rw [hy115]; exact H) | exact H
 have Ny115 := Aside0.mk hy115
 clear hy115
 by_cases c2 : y115.length + l0.length < 8796093022208
 ·rw [if_pos c2] at H
  have LMc2 := Aside0.mk c2
  clear c2
  obtain ⟨y118, hy118⟩ : ∃ y_ : List (S68), y_ = (y115 ++ l0) := ⟨_, rfl⟩
  replace H : (some y118) = some r := by first | (rw [hy118]; with_reducible exact H) | (have H2_ := (Option.bind_some _ _).symm.trans H; rw [hy118]; with_reducible exact H2_) | (have H2_ := (Option.bind_some _ _).symm.trans H; with_reducible exact H2_) | with_reducible exact H | (rw [hy118]; exact H) | exact H
  have Ny118 := Aside0.mk hy118
  clear hy118
  obtain rfl := Option.some.inj H
  go_enter Try.func65, Try.ntmps65
  go_wp2_with (first | ((with_reducible refine gd_ 5 rfl ?_); refine Kd.R_lit k68 _ 68 ?hg (N := 5) ?hd (xs := ([] : List (S68))) (inner := []) (ok := fun _ => True) (okp := fun _ => True) ?hr ?hp (fun _ hk => by first | exact hk | grind) trivial (Below.refl _ _) (Nat.le_refl _) (by simp) ?_; (case hd => rfl); (case hg => rfl); (case hr => first | (go_simp; done) | (go_simp; rfl)); (case hp => exact (Reps.none _ _)); intro v116 w3 ho4 hb hg_ hnew_; clear hg_ hnew_; (first | rw [← Ny115.out] at ho4 | (simp only [Int.reduceToNat] at ho4; rw [← Ny115.out] at ho4)); have HO117 := Aside0.mk (Kd.R_lower ho4 (below_size (be_ HB))); replace HB := Aside0.mk (below_step (be_ HB) hb); clear hb ho4) | ((with_reducible refine gate_builtin (b := .append) (xs := #[.tmp 5, .tmp 6]) rfl ?_); at_builtin; refine Kd.R_append_rows k68 (w0 := w) w.heap.size rfl (.tmp 5) (.tmp 6) 26 68 (.agg #[(.int .i64 0), (.int .i64 0)]) 16 rfl Try.underlying26 info68 rfl (by decide) (by omega) v116 y115 l0 _ _ _ (fun _ => True) (fun _ => False) rfl rfl ?aO ?aR (fun _ _ h => h) (fun _ h => h.elim) ?aF ?aB ?aS ?aL ?_; (case aR => repeat (first | exact (Kd.C_below HR0.out HB.out) | (with_reducible refine Kd.C_alloc ?_ _) | (with_reducible refine Kd.C_drewN ?_ _) | (with_reducible refine Kd.C_drew ?_))); (case aB => exact (be_ HB)); (case aF => exact (fun _ _ => trivial)); (case aO => exact (kr_ HO117)); (case aS => exact (below_size (be_ HB))); (case aL => have := LMc2.out; omega); intro v119 w5 ho hb hg hat; rw [← Ny118.out] at ho; replace HB := Aside0.mk (hb); have HO120 := Aside0.mk (ho); clear HO117 ho hb hg hat))
  go_ret
  exact ⟨_, by first | rfl | (simp [errW_none, errW_some] <;> rfl) | (simp [*, errW_none, errW_some] <;> rfl), by (with_reducible repeat (first | apply Kd.R_alloc | apply Kd.R_drewN | apply Kd.R_drew)); exact HO120.out, be_ HB⟩
 ·rw [if_neg c2] at H
  exact absurd H (by simp)
set_option maxHeartbeats 8000000 in
set_option maxRecDepth 100000 in
theorem impl_Item_65.calls (A0 : Option Addr) (c0 : Nat) (l0 : List (S68)) (r : List (S68)) (w : World) (hr0 : Kd.C k68 w A0 l0.length l0) (hc0 : l0.length ≤ c0) (h : impl_Item_65.f l0 = some r) :
  Calls Try.prog 65 #[.slice A0 l0.length c0] w fun e w' => ∃ v0_ : Value, e = .returned (v0_) ∧ Kd.R k68 68 w' w.heap.size (fun _ => True) v0_ r ∧ Below w.heap.size w w' := by
  cases A0 with
  | some a_ => exact impl_Item_65.calls_some a_ c0 l0 r w hr0 hc0 h
  | none =>
    obtain rfl : l0 = [] := by
      rcases l0 with _ | ⟨x_, t_⟩
      · rfl
      · obtain ⟨ad_, h0_, _⟩ := hr0.2.2 (by simp)
        cases h0_
    obtain rfl : r = [] := by simpa [impl_Item_65.f] using h.symm
    have hnil0_ := fun (W : World) (n c : Nat) => Lib.run_eql_slice_nil (P := Try.prog) W 26 68 none n c 0 0 Try.underlying26
    clear hr0 hc0 h
    go_enter Try.func65, Try.ntmps65
    go_wp2
    go_ret
    exact ⟨_, rfl, Kd.R_nil _ _ _ _ _, Below.refl _ _⟩

/-! ### impl_copyHeap: function 96 -/
def impl_copyHeap.f (l0_0 : List (S68)) : Option ((List (S68))) := (impl_Item_65.f l0_0).bind fun t123 => (some t123)
set_option maxHeartbeats 8000000 in
set_option maxRecDepth 100000 in
theorem impl_copyHeap.calls (A0_0 : Option Addr) (c0_0 : Nat) (l0_0 : List (S68)) (r : List (S68)) (w : World) (hr0_0 : Kd.C k68 w A0_0 l0_0.length l0_0) (hc0_0 : l0_0.length ≤ c0_0) (h : impl_copyHeap.f l0_0 = some r) :
  Calls Try.prog 96 #[.agg #[.slice A0_0 l0_0.length c0_0]] w fun e w' => ∃ v0_ : Value, e = .returned (.agg #[v0_]) ∧ Kd.R k68 68 w' w.heap.size (fun _ => True) v0_ r ∧ Below w.heap.size w w' := by
 have hu29 := Try.underlying29
 have HR0_0 := Aside0.mk hr0_0
 have HC0_0 := Aside0.mk hc0_0
 clear hr0_0 hc0_0; have HB := Aside0.mk (Below.refl w.heap.size w)
 have H := h
 clear h
 unfold impl_copyHeap.f at H
 replace H := Option.bind_eq_some_iff.mp H
 obtain ⟨t123, A20, H⟩ := H
 have A2 := Aside0.mk A20
 clear A20
 obtain rfl := Option.some.inj H
 go_enter Try.func96, Try.ntmps96
 go_wp2_with (first | ((with_reducible refine gd_ 1 rfl ?_); refine bv_ 1 #[.slice A0_0 l0_0.length c0_0] 29 ?_; intro gb121 hg w3 hbox hb; have BK121 := Aside0.mk (hbox); have GW121 := gw_ HB hg; have GE121 := gw_ HB hg; replace HB := Aside0.mk (below_step (be_ HB) hb); clear hb hbox hg) | ((with_reducible refine gd_ 2 rfl ?_); refine bv_ 2 #[.slice none 0 0] 29 ?_; intro gb122 hg w4 hbox hb; have BK122 := Aside0.mk (hbox); have GW122 := gw_ HB hg; have GE122 := gw_ HB hg; replace HB := Aside0.mk (below_step (bf_ HB) hb); have NB121_122 := nl_ BK121 hg; have NB122_121 := ng_ BK121 hg; replace BK121 := bb_ BK121 hb; clear hb hbox hg; have hnb5 := NB121_122.out; have hnc5 := NB122_121.out; obtain ⟨hcz6_0, hfz6_0⟩ := bz1_ BK121) | ((with_reducible refine gc_ 65 rfl ?_); refine gl_ 5 Try.func65 #[.slice A0_0 l0_0.length c0_0] ?_; (with_reducible refine (impl_Item_65.calls _ _ l0_0 t123 _ ?side1 ?side2 A2.out).mono ?_); (case side1 => repeat (first | exact (Kd.C_below HR0_0.out HB.out) | (with_reducible refine Kd.C_alloc ?_ _) | (with_reducible refine Kd.C_drewN ?_ _) | (with_reducible refine Kd.C_drew ?_))); (case side2 => exact HC0_0.out); rintro e w7 ⟨v124, rfl, ho0, hb⟩; refine ⟨_, rfl, ?_⟩; have HO125 := Aside0.mk (Kd.R_lower ho0 (below_size (bf_ HB))); replace BK121 := bb_ BK121 hb; replace BK122 := bb_ BK122 hb; replace HB := Aside0.mk (below_step (bf_ HB) hb); (try clear hb); (try clear hb2); (try clear hk); (try clear hi); (try clear ho0); obtain ⟨Ao8, co8, eo8⟩ := Kd.R_slice HO125.out; subst eo8; obtain ⟨hcz9_0, hfz9_0⟩ := bz1_ BK122))
 refine bodyPost_ret (results_cell_row rfl _ _ gb122 29 #[.slice Ao8 t123.length co8] (0, 0) _ rfl (by (with_reducible repeat (first | refine blk_drewN ?_ _ | refine blk_drew ?_ | refine blk_alloc ?_ _)); refine blk_put (cs := #[.slice none 0 0]) ?_ 0 _ rfl; exact bk_ BK122) Try.underlying29 rfl (by kernel_rfl)) rfl ?_
 exact ⟨_, by first | rfl | (simp [errW_none, errW_some] <;> rfl) | (simp [*, errW_none, errW_some] <;> rfl), by (with_reducible repeat (first | apply Kd.R_alloc | apply Kd.R_drewN | apply Kd.R_drew)); exact Kd.R_mono (Kd.R_far (p := ⟨gb122, 0, none⟩) (Kd.R_types HO125.out BK122.out (by decide)) (fun _ hk => by first | exact hk.2 | grind) (.slice Ao8 t123.length co8)) (fun _ hk => by first | exact trivial | grind), bf_ HB⟩

end Go.Proofs.Ytnklakficjpmoaa.PFnHeapBook
