-- printed by a program of this session (wip/printx) out of the translation; Lean checks it
import Derived.Test.YtnklakficjpmoaaVFnHeapBook
import Derived.Test.YtnklakficjpmoaaPFnHeapBookx0
import Derived.Test.YtnklakficjpmoaaPFnHeapBookx2
namespace Go.Proofs.Ytnklakficjpmoaa.PFnHeapBook
open Go.RowKit Go.Proofs.YtnklakficjpmoaaW.PrintWords Go.Proofs.YtnklakficjpmoaaW.PrintLast Go.Proofs.YtnklakficjpmoaaW.PrintMore
attribute [local go_sem] max2_int min2_int max_two min_two max_three min_three max_four min_four   -- for this text's walks alone
set_option linter.unusedVariables false
set_option linter.unusedSimpArgs false

/-! ### impl_Heap_up: function 102 -/
def impl_Heap_up.l0 : Nat → Int → List (S68) → Option (Int × (List (S68)))
  | 0, _, _ => none
  | k + 1, x1, x127000 => if x1 > 0 then (if 0 ≤ x1 then (if x1 < (x127000.length : Int) then (if 0 ≤ (wrap64 (Int.tdiv (wrap64 (x1 - 1)) 2)) then (if (wrap64 (Int.tdiv (wrap64 (x1 - 1)) 2)) < (x127000.length : Int) then ((impl_Ahead.f ((rd_T68 x127000 x1).f0) ((rd_T68 x127000 x1).f1) ((rd_T68 x127000 (wrap64 (Int.tdiv (wrap64 (x1 - 1)) 2))).f0) ((rd_T68 x127000 (wrap64 (Int.tdiv (wrap64 (x1 - 1)) 2))).f1)).bind fun t129 => (if t129 = true then (impl_Heap_up.l0 k (wrap64 (Int.tdiv (wrap64 (x1 - 1)) 2)) ((x127000.set (x1 : Int).toNat (⟨(rd_T68 x127000 (wrap64 (Int.tdiv (wrap64 (x1 - 1)) 2))).f0, (rd_T68 x127000 (wrap64 (Int.tdiv (wrap64 (x1 - 1)) 2))).f1⟩ : S68)).set ((wrap64 (Int.tdiv (wrap64 (x1 - 1)) 2)) : Int).toNat (⟨(rd_T68 x127000 x1).f0, (rd_T68 x127000 x1).f1⟩ : S68))) else (some (x1, x127000)))) else (none)) else (none)) else (none)) else (none)) else (some (x1, x127000))
def impl_Heap_up.f (k : Nat) (l0_0 : List (S68)) (a1 : Int) : Option (Int × (List (S68))) := impl_Heap_up.l0 k a1 l0_0
theorem impl_Heap_up.mono_l : ∀ k, (∀ y0 y1, LeO (impl_Heap_up.l0 k y0 y1) (impl_Heap_up.l0 (k + 1) y0 y1))
 | 0 => fun _ _ r h => by simp [impl_Heap_up.l0] at h
 | k + 1 => by
  have ih0 := impl_Heap_up.mono_l k
  ·intro y0 y1
   unfold impl_Heap_up.l0
   repeat' (first | (with_reducible exact ih0 ..) | (with_reducible exact LeO.refl _) | (with_reducible exact LeO.none _) | (with_reducible refine LeO.ite ?_ ?_) | (with_reducible refine LeO.bind ?_ (fun _ => ?_)) | exact ih0 .. | exact LeO.none _ | refine LeO.ite ?_ ?_ | refine LeO.bind ?_ (fun _ => ?_))
theorem impl_Heap_up.mono : ∀ a0 a1 k, LeO (impl_Heap_up.f k a0 a1) (impl_Heap_up.f (k + 1) a0 a1) := by
 intro a0 a1 k
 have ih0 := impl_Heap_up.mono_l k
 unfold impl_Heap_up.f
 repeat' (first | (with_reducible exact ih0 ..) | (with_reducible exact LeO.refl _) | (with_reducible exact LeO.none _) | (with_reducible refine LeO.ite ?_ ?_) | (with_reducible refine LeO.bind ?_ (fun _ => ?_)) | exact ih0 .. | exact LeO.none _ | refine LeO.ite ?_ ?_ | refine LeO.bind ?_ (fun _ => ?_))
def impl_Heap_up.T1 : Bool × List (List Nat × List Nat) := (true, [([], []), ([0], [0]), ([1], [1]), ([2], [2]), ([3, 2], [2, 3]), ([2], [2]), ([4, 5, 2], [2, 4, 5]), ([6, 2], [2, 6]), ([2], [2]), ([8, 2], [2, 8]), ([2], [2]), ([10, 2], [2, 10]), ([11, 2], [2, 11]), ([9, 12, 2], [2, 9, 12]), ([13, 2], [2, 13]), ([7, 14, 2, 2], [2, 7, 14]), ([2, 15], [2, 15])])
def impl_Heap_up.B1 : List Nat := [0, 1, 3, 7, 15, 7, 63, 127, 7, 263, 7, 1031, 3079, 7943, 16135, 32767, 65535]
theorem impl_Heap_up.tab1 : rtab .any (opsOf Try.f102 1) = impl_Heap_up.T1 := by kernel_rfl
theorem impl_Heap_up.bits1 : waitsOk impl_Heap_up.T1.2 impl_Heap_up.B1 = true := by kernel_rfl
def impl_Heap_up.T3 : Bool × List (List Nat × List Nat) := (true, [([], []), ([0], [0]), ([], []), ([], []), ([3], [3]), ([], []), ([], []), ([6], [6]), ([], []), ([7, 8], [7, 8]), ([9], [9]), ([], []), ([11], [11]), ([], []), ([12, 13], [12, 13]), ([14], [14]), ([1, 2, 0, 1, 2, 6, 7, 8, 9, 10, 15], [1, 2]), ([16, 10, 0, 1, 2, 6, 7, 8, 9, 10, 15], [10, 16]), ([4, 5, 0, 1, 2, 3, 4, 5, 6, 7, 8, 9, 10, 11, 12, 13, 14, 15, 16, 17], [4, 5]), ([18, 15, 17, 0, 1, 2, 3, 4, 5, 6, 7, 8, 9, 10, 11, 12, 13, 14, 15, 16, 17], [15, 18])])
def impl_Heap_up.B3 : List Nat := [0, 1, 0, 0, 8, 0, 0, 64, 0, 448, 960, 0, 2048, 0, 14336, 30720, 65479, 131015, 262143, 524287]
theorem impl_Heap_up.tab3 : rtab .any (opsOf Try.f102 3) = impl_Heap_up.T3 := by kernel_rfl
theorem impl_Heap_up.bits3 : waitsOk impl_Heap_up.T3.2 impl_Heap_up.B3 = true := by kernel_rfl
set_option maxHeartbeats 8000000 in
set_option maxRecDepth 100000 in
theorem impl_Heap_up.calls (k : Nat) (P0_0_ : Nat → Prop) (u9000_ : Value) (l0_0 : List (S68)) (a1 : Int) (r1 : Int) (r2 : List (S68)) (w0 w : World) (hB : Below w0.heap.size w0 w) (ho0_0 : Kd.R k68 68 w w0.heap.size P0_0_ u9000_ l0_0) (h : impl_Heap_up.f k l0_0 a1 = some (r1, r2)) :
  Calls Try.prog 102 #[.agg #[u9000_], .int .i64 a1] w fun e w' => e = .returned (.int .i64 r1) ∧ Kd.R k68 68 w' w0.heap.size (fun k_ => (P0_0_ k_ ∨ w.heap.size ≤ k_)) u9000_ r2 ∧ Below w0.heap.size w0 w' ∧ Kept w w' (fun k_ => P0_0_ k_) := by
 have hu29 := Try.underlying29; have hu68 := Try.underlying68
 have HO0_0 := Aside0.mk (show Kd.R k68 68 w w0.heap.size (fun k_ => (P0_0_ k_ ∨ w.heap.size ≤ k_)) u9000_ l0_0 from Kd.R_mono ho0_0 (fun k_ hk => by first | exact (.inl hk) | grind))
 have HK := Aside0.mk (Kept.refl w (fun k_ => P0_0_ k_))
 have HW0 := Aside0.mk hB.size
 have HB := Aside0.mk hB; clear hB
 have H := h
 clear h
 unfold impl_Heap_up.f at H
 have H' := Aside0.mk H
 clear H
 obtain ⟨Ao3, co3, eo3⟩ := Kd.R_slice HO0_0.out
 subst eo3
 go_enter Try.func102, Try.ntmps102
 go_wp2_with (first | ((with_reducible refine gd_ 2 rfl ?_); refine bv_ 2 #[.slice Ao3 l0_0.length co3] 29 ?_; intro gb126 hg w4 hbox hb; replace HO0_0 := Aside0.mk (Kd.R_below (kr_ HO0_0) hb); have BK126 := Aside0.mk (hbox); have GW126 := Aside0.mk ((by rw [hg]; exact (by first | exact HK.out.1 | exact (show Kept w _ (fun k_ => P0_0_ k_) from by repeat (first | (with_reducible first | exact HK.out | apply Kept.alloc | apply Kept.drewN | apply Kept.drew) | exact HK.out)).1) : w.heap.size ≤ gb126)); replace HK := Aside0.mk (Kept.below (S := (fun k_ => P0_0_ k_)) (by repeat (first | (with_reducible first | exact HK.out | apply Kept.alloc | apply Kept.drewN | apply Kept.drew) | exact HK.out)) hb); have GE126 := Aside0.mk ((by rw [hg]; exact (below_size (be_ HB)) : w0.heap.size ≤ gb126)); replace HB := Aside0.mk (below_step (be_ HB) hb); clear hb hbox hg))
 (try simp only [Act.put, ls0_, ls1_, ls2_])
 go_loopg [1] k (fun kq v1 w' => ∃ (x1_1 : Int) (x127000_1 : List (S68)), v1 = .int .i64 x1_1 ∧ Aside0 (impl_Heap_up.l0 kq x1_1 x127000_1 = some (r1, r2)) ∧ Aside0 (kq ≤ k) ∧ Aside0 (Kd.R k68 68 w' w0.heap.size (fun k_ => (P0_0_ k_ ∨ w.heap.size ≤ k_)) (.slice Ao3 l0_0.length co3) x127000_1) ∧ Aside0 (w'.heap[gb126]? = some (.cells #[(.slice Ao3 l0_0.length co3)] 29 (0, 0))) ∧ Aside0 (Kept w w' (fun k_ => P0_0_ k_)) ∧ Aside0 (Below w0.heap.size w0 w'))
 case atStart => exact ⟨(a1), (l0_0), (by first | rfl | (simp; done) | (simp [*]; done)), H', ⟨Nat.le_refl _⟩, ⟨kr_ HO0_0⟩, ⟨bk_ BK126⟩, ⟨by repeat (first | (with_reducible first | exact HK.out | apply Kept.alloc | apply Kept.drewN | apply Kept.drew | refine Kept.setCell ?_ (.inr GW126.out) _) | exact HK.out)⟩, ⟨bf_ HB⟩⟩
 case round =>
  clear H'
  (try clear c1); (try clear p2)
  obtain ⟨x1_1, x127000_1, rfl, HA, HK1, HO_127000, BK126, HK, HB⟩ := hrel
  have hl127000_1 := (Kd.R_reads' HO_127000.out).1
  rw [hl127000_1] at HO_127000
  (try simp only [hl127000_1])
  (try simp only [hl127000_1] at BK126)
  cases gk with
  | zero => exact absurd HA.out (by simp [impl_Heap_up.l0])
  | succ k1 =>
   have H := HA.out
   clear HA
   simp only [impl_Heap_up.l0] at H
   by_cases c5 : x1_1 > 0
   ·rw [if_pos c5] at H
    have c5b0 : decide (0 < x1_1) = true := decide_eq_true c5
    have c5b0l := c5b0
    (try simp only [hl127000_1] at c5b0l)
    clear c5
    by_cases c6 : 0 ≤ x1_1
    ·rw [if_pos c6] at H
     have c6b0 : decide (0 ≤ x1_1) = true := decide_eq_true c6
     have c6b0l := c6b0
     (try simp only [hl127000_1] at c6b0l)
     clear c6
     by_cases c7 : x1_1 < (x127000_1.length : Int)
     ·rw [if_pos c7] at H
      have c7b0 : decide (x1_1 < (x127000_1.length : Int)) = true := decide_eq_true c7
      have c7b0l := c7b0
      (try simp only [hl127000_1] at c7b0l)
      clear c7
      obtain ⟨ji8, hji8⟩ : ∃ j_ : Int, (wrap64 (Int.tdiv (wrap64 (x1_1 - 1)) 2)) = j_ := ⟨_, rfl⟩
      replace H : (if 0 ≤ (ji8) then (if (ji8) < (x127000_1.length : Int) then ((impl_Ahead.f ((rd_T68 x127000_1 x1_1).f0) ((rd_T68 x127000_1 x1_1).f1) ((rd_T68 x127000_1 (ji8)).f0) ((rd_T68 x127000_1 (ji8)).f1)).bind fun t129 => (if t129 = true then (impl_Heap_up.l0 k1 ji8 ((x127000_1.set (x1_1 : Int).toNat (⟨(rd_T68 x127000_1 (ji8)).f0, (rd_T68 x127000_1 (ji8)).f1⟩ : S68)).set ((ji8) : Int).toNat (⟨(rd_T68 x127000_1 x1_1).f0, (rd_T68 x127000_1 x1_1).f1⟩ : S68))) else (some (x1_1, x127000_1)))) else (none)) else (none)) = some (r1, r2) := by first | (rw [hji8] at H; exact H) | (simp only [hji8] at H ⊢; exact H)
      have hji8w : (IntKind.i64.wrap (Int.tdiv (wrap64 (x1_1 - 1)) 2)) = ji8 := (i64_w _).trans hji8
      by_cases c9 : 0 ≤ (ji8)
      ·rw [if_pos c9] at H
       have c9b0 : decide (0 ≤ (ji8)) = true := decide_eq_true c9
       have c9b0l := c9b0
       (try simp only [hl127000_1] at c9b0l)
       clear c9
       by_cases c10 : (ji8) < (x127000_1.length : Int)
       ·rw [if_pos c10] at H
        have c10b0 : decide ((ji8) < (x127000_1.length : Int)) = true := decide_eq_true c10
        have c10b0l := c10b0
        (try simp only [hl127000_1] at c10b0l)
        clear c10
        replace H := Option.bind_eq_some_iff.mp H
        obtain ⟨t129, A110, H⟩ := H
        have A11 := Aside0.mk A110
        clear A110
        by_cases c12 : t129 = true
        ·subst c12
         rw [if_pos rfl] at H
         obtain ⟨y132, hy132⟩ : ∃ y_ : List (S68), y_ = (x127000_1.set (x1_1 : Int).toNat (⟨(rd_T68 x127000_1 (ji8)).f0, (rd_T68 x127000_1 (ji8)).f1⟩ : S68)) := ⟨_, rfl⟩
         replace H : (impl_Heap_up.l0 k1 ji8 (y132.set ((ji8) : Int).toNat (⟨(rd_T68 x127000_1 x1_1).f0, (rd_T68 x127000_1 x1_1).f1⟩ : S68))) = some (r1, r2) := by first | (rw [hy132]; with_reducible exact H) | (have H2_ := (Option.bind_some _ _).symm.trans H; rw [hy132]; with_reducible exact H2_) | (have H2_ := (Option.bind_some _ _).symm.trans H; with_reducible exact H2_) | with_reducible exact H | (rw [hy132]; exact H) | exact H
         have Ny132 := Aside0.mk hy132
         clear hy132
         obtain ⟨y133, hy133⟩ : ∃ y_ : List (S68), y_ = (y132.set ((ji8) : Int).toNat (⟨(rd_T68 x127000_1 x1_1).f0, (rd_T68 x127000_1 x1_1).f1⟩ : S68)) := ⟨_, rfl⟩
         replace H : (impl_Heap_up.l0 k1 ji8 y133) = some (r1, r2) := by first | (rw [hy133]; with_reducible exact H) | (have H2_ := (Option.bind_some _ _).symm.trans H; rw [hy133]; with_reducible exact H2_) | (have H2_ := (Option.bind_some _ _).symm.trans H; with_reducible exact H2_) | with_reducible exact H | (rw [hy133]; exact H) | exact H
         have Ny133 := Aside0.mk hy133
         clear hy133
         have H' := Aside0.mk H
         clear H
         try go_wp2
         have n0_ := Aside0.mk (Kd.R_drew HO_127000.out); have n1_ := Aside0.mk (blk_drew BK126.out); have n2_ := Aside0.mk (Kept.drew HK.out); have n3_ := Aside0.mk (below_drew1 HB.out); clear HO_127000 BK126 HK HB; have HO_127000 := n0_; have BK126 := n1_
         have HK := n2_
         have HB := n3_; clear n0_ n1_ n2_ n3_
         have p127 : 0 ≤ (x1_1 : Int) := od_
         have q127 : x1_1 < (x127000_1.length : Int) := od_
         obtain ⟨ad127, e127, hx127_0, hx127_1⟩ := at_T68 (Kd.R_reads' HO_127000.out).2.2 x1_1 p127 q127
         cases e127
         replace p127 := eq_true p127
         replace q127 := eq_true q127
         have p128 : 0 ≤ ((ji8) : Int) := od_
         have q128 : (ji8) < (x127000_1.length : Int) := od_
         obtain ⟨ad128, e128, hx128_0, hx128_1⟩ := at_T68 (Kd.R_reads' HO_127000.out).2.2 (ji8) p128 q128
         obtain rfl : ad127 = ad128 := (by injection e128)
         replace p128 := eq_true p128
         replace q128 := eq_true q128
         refine start_ (n := 17) (S := fun w' => cw_ w' gb126 0 (.slice (some ad127) x127000_1.length co3) ∧ w'.cell? (ad127.add ((x1_1).toNat * 2)) = some (.int .i64 ((rd_T68 x127000_1 x1_1).f0)) ∧ w'.cell? ⟨(ad127.add ((x1_1).toNat * 2)).block, (ad127.add ((x1_1).toNat * 2)).off + 1, none⟩ = some (.int .i64 ((rd_T68 x127000_1 x1_1).f1)) ∧ w'.cell? (ad127.add (((ji8)).toNat * 2)) = some (.int .i64 ((rd_T68 x127000_1 (ji8)).f0)) ∧ w'.cell? ⟨(ad127.add (((ji8)).toNat * 2)).block, (ad127.add (((ji8)).toNat * 2)).off + 1, none⟩ = some (.int .i64 ((rd_T68 x127000_1 (ji8)).f1))) (ds := []) (bs 17 0) (by kernel_rfl) rfl rfl ⟨bt_ BK126 0, hx127_0, hx127_1, hx128_0, hx128_1⟩ (fun hHeld => ?_); refine with_tabW impl_Heap_up.tab1 impl_Heap_up.bits1 (fun HT_ HW_ => ?_)
         generalize wr.drew = w15 at HO_127000 BK126 HK HB hx127_0 hx127_1 hx128_0 hx128_1 hHeld ⊢
         iterate 4 (refine psn_ HT_ ?_)
         refine ps_ 5 11 (bm 17 47) HT_ ?_
         refine ps_ 8 14 (bm 17 303) HT_ ?_
         refine ps_ 10 16 (bm 17 1327) HT_ ?_
         refine ps_ 11 17 (bm 17 3375) HT_ ?_
         refine ps_ 12 18 (bm 17 7471) HT_ ?_
         refine tk_ 4 10 (bm 17 7487) HT_ HW_ hHeld ?_
         refine ps_ 6 12 (bm 17 7551) HT_ ?_
         refine tk_ 7 13 (bm 17 7679) HT_ HW_ hHeld ?_
         refine tk_ 9 15 (bs 17 13) HT_ HW_ hHeld ?_
         refine psn_ HT_ ?_
         refine tkn_ HT_ HW_ hHeld ?_
         refine on_ 15 (some 21) (bs 17 16) HT_ (fun K hK => ?_)
         refine goes_ Try.func68 (by kernel_rfl) rfl #[.agg #[.int .i64 ((rd_T68 x127000_1 x1_1).f0), .int .i64 ((rd_T68 x127000_1 x1_1).f1)], .agg #[.int .i64 ((rd_T68 x127000_1 (ji8)).f0), .int .i64 ((rd_T68 x127000_1 (ji8)).f1)]] (by rfl) rfl rfl (by (try simp only [List.map_toArray, List.map_cons, List.map_nil]); first | done | (simp only [hji8]; rfl) | rfl | (simp only [List.length_drop, List.length_take]; rfl)) ?_
         with_reducible refine (impl_Ahead.calls ((rd_T68 x127000_1 x1_1).f0) ((rd_T68 x127000_1 x1_1).f1) ((rd_T68 x127000_1 (ji8)).f0) ((rd_T68 x127000_1 (ji8)).f1) true _ A11.out).mono ?_
         rintro e w16 ⟨rfl, hb⟩
         have HS1_ := hc_ hb hHeld.2.1
         have HS2_ := hc_ hb hHeld.2.2.1
         have HS3_ := hc_ hb hHeld.2.2.2.1
         have HS4_ := hc_ hb hHeld.2.2.2.2
         refine ⟨_, rfl, ?_⟩
         have n0_ := Aside0.mk (Kd.R_below (kr_ HO_127000) hb); have n1_ := bb_ BK126 hb
         have n2_ := Aside0.mk (Kept.below (S := (fun k_ => P0_0_ k_)) (by repeat (first | (with_reducible first | exact HK.out | apply Kept.alloc | apply Kept.drewN | apply Kept.drew | refine Kept.setCell ?_ (.inr GW126.out) _) | exact HK.out)) hb)
         have n3_ := Aside0.mk (below_step (bf_ HB) hb); clear HO_127000 BK126 HK HB; have HO_127000 := n0_; have BK126 := n1_
         have HK := n2_
         have HB := n3_; clear n0_ n1_ n2_ n3_; (try clear hb); (try clear hb2); (try clear hk); (try clear hi)
         refine hK.out _ _ ⟨bt_ BK126 0, HS1_, HS2_, HS3_, HS4_⟩ (fun hHeld => ?_)
         clear hK K
         refine norm_ (a' := ?_) ?_ ?_
         rotate_left
         ·show Act.put _ (some 21) _ = _
          simp only [Act.put, ls0_, ls1_, ls2_, i64_w, i32_w]
          rfl
         refine psn_ HT_ ?_
         refine done_ (done_of HT_.out (by kernel_rfl)) ?_
         try go_wp2
         have n0_ := Aside0.mk (Kd.R_drew HO_127000.out); have n1_ := Aside0.mk (blk_drew BK126.out); have n2_ := Aside0.mk (Kept.drew HK.out); have n3_ := Aside0.mk (below_drew1 HB.out); clear HO_127000 BK126 HK HB; have HO_127000 := n0_; have BK126 := n1_
         have HK := n2_
         have HB := n3_; clear n0_ n1_ n2_ n3_
         have p130 : 0 ≤ ((ji8) : Int) := od_
         have q130 : (ji8) < (x127000_1.length : Int) := od_
         obtain ⟨ad130, e130, hx130_0, hx130_1⟩ := at_T68 (Kd.R_reads' HO_127000.out).2.2 (ji8) p130 q130
         obtain rfl : ad127 = ad130 := (by injection e130)
         replace p130 := eq_true p130
         replace q130 := eq_true q130
         have p131 : 0 ≤ (x1_1 : Int) := od_
         have q131 : x1_1 < (x127000_1.length : Int) := od_
         obtain ⟨ad131, e131, hx131_0, hx131_1⟩ := at_T68 (Kd.R_reads' HO_127000.out).2.2 x1_1 p131 q131
         obtain rfl : ad127 = ad131 := (by injection e131)
         replace p131 := eq_true p131
         replace q131 := eq_true q131
         have p13 : 0 ≤ (x1_1 : Int) := od_
         have q13 : (x1_1 : Int) < ((x127000_1.length : Int) : Int) := od_
         obtain ⟨go13, co13, eo13, gb13, gl13, cl13, HG13⟩ := Kd.R_form HO_127000.out (by omega)
         (first | cases eo13 | (injection eo13 with ea_ en_ ec_; (first | subst ea_ | (injection ea_ with ea_; subst ea_)); subst ec_; clear en_))
         have GB13 := Aside0.mk gb13
         have GG13 := Aside0.mk HG13
         clear gb13 gl13 HG13
         have HMgo13 := Aside0.mk (show (P0_0_ go13 ∨ w.heap.size ≤ go13) from (HO_127000.out.1 _ rfl))
         (first | simp only [add_plain] at hx127_0 | skip)
         (first | simp only [add_plain] at hx127_1 | skip)
         (first | simp only [add_plain] at hx128_0 | skip)
         (first | simp only [add_plain] at hx128_1 | skip)
         (first | simp only [add_plain] at hx130_0 | skip)
         (first | simp only [add_plain] at hx130_1 | skip)
         (first | simp only [add_plain] at hx131_0 | skip)
         (first | simp only [add_plain] at hx131_1 | skip)
         obtain ⟨ce13, hcl13, hM13, hcc13, hfr13⟩ := Kd.R_elem HO_127000.out z68 (x1_1 : Int) p13 q13
         obtain rfl := k68_openM hM13
         have hx13_0 : World.cell? _ ⟨go13, (x1_1 : Int).toNat * 2, none⟩ = some (.int .i64 ((rd_T68 x127000_1 x1_1).f0)) := hcc13 0 _ rfl
         have hx13_1 : World.cell? _ ⟨go13, (x1_1 : Int).toNat * 2 + 1, none⟩ = some (.int .i64 ((rd_T68 x127000_1 x1_1).f1)) := hcc13 1 _ rfl
         have hf13_0 : World.frozen? _ ⟨go13, (x1_1 : Int).toNat * 2, none⟩ = false := hfr13 0
         have hf13_1 : World.frozen? _ ⟨go13, (x1_1 : Int).toNat * 2 + 1, none⟩ = false := hfr13 1
         clear hcl13 hcc13 hfr13 hM13
         replace p13 := eq_true p13
         replace q13 := eq_true q13
         obtain ⟨ce18, hcl18, hM18, hcc18, hfr18⟩ := Kd.R_elem HO_127000.out z68 (x1_1 : Int) (od_) (by have h_ : (x1_1 : Int) < ((x127000_1.length : Int) : Int) := od_; first | exact h_ | (have e_ := (Kd.R_reads' HO_127000.out).1; omega) | simpa using h_)
         obtain rfl := k68_openM hM18
         have HP18 := (Kd.R_seg HO_127000.out (x1_1 : Int) (od_) (by have h_ : (x1_1 : Int) < ((x127000_1.length : Int) : Int) := od_; first | exact h_ | (have e_ := (Kd.R_reads' HO_127000.out).1; omega) | simpa using h_) (seg := [.int .i64 ((rd_T68 x127000_1 (ji8)).f0), .int .i64 ((rd_T68 x127000_1 (ji8)).f1)]) (j := 0) hcl18 hcc18 (show 2 ≤ 2 from by decide) (x' := (⟨(rd_T68 x127000_1 (ji8)).f0, (rd_T68 x127000_1 (ji8)).f1⟩ : S68)) (k68_mkM _ _ _ (⟨(rd_T68 x127000_1 (ji8)).f0, (rd_T68 x127000_1 (ji8)).f1⟩ : S68) ) (fun _ hk => by first | exact hk | grind)).1
         rw [← Ny132.out] at HP18
         have HQ18 := Aside0.mk HP18
         clear hcl18 hcc18 hfr18 hM18 HP18
         have p14 : 0 ≤ ((ji8) : Int) := od_
         have q14 : ((ji8) : Int) < ((x127000_1.length : Int) : Int) := od_
         obtain ⟨ce14, hcl14, hM14, hcc14, hfr14⟩ := Kd.R_elem HQ18.out z68 ((ji8) : Int) p14 q14
         obtain rfl := k68_openM hM14
         have hx14_0 : World.cell? _ ⟨go13, ((ji8) : Int).toNat * 2, none⟩ = some (.int .i64 ((rd_T68 y132 (ji8)).f0)) := hcc14 0 _ rfl
         change World.cell? (World.setCell (World.setCell _ ⟨go13, (x1_1 : Int).toNat * 2, none⟩ (.int .i64 ((rd_T68 x127000_1 (ji8)).f0))) ⟨go13, (x1_1 : Int).toNat * 2 + 1, none⟩ (.int .i64 ((rd_T68 x127000_1 (ji8)).f1))) _ = _ at hx14_0
         have hx14_1 : World.cell? _ ⟨go13, ((ji8) : Int).toNat * 2 + 1, none⟩ = some (.int .i64 ((rd_T68 y132 (ji8)).f1)) := hcc14 1 _ rfl
         change World.cell? (World.setCell (World.setCell _ ⟨go13, (x1_1 : Int).toNat * 2, none⟩ (.int .i64 ((rd_T68 x127000_1 (ji8)).f0))) ⟨go13, (x1_1 : Int).toNat * 2 + 1, none⟩ (.int .i64 ((rd_T68 x127000_1 (ji8)).f1))) _ = _ at hx14_1
         have hf14_0 : World.frozen? _ ⟨go13, ((ji8) : Int).toNat * 2, none⟩ = false := hfr14 0
         change World.frozen? (World.setCell (World.setCell _ ⟨go13, (x1_1 : Int).toNat * 2, none⟩ (.int .i64 ((rd_T68 x127000_1 (ji8)).f0))) ⟨go13, (x1_1 : Int).toNat * 2 + 1, none⟩ (.int .i64 ((rd_T68 x127000_1 (ji8)).f1))) _ = _ at hf14_0
         have hf14_1 : World.frozen? _ ⟨go13, ((ji8) : Int).toNat * 2 + 1, none⟩ = false := hfr14 1
         change World.frozen? (World.setCell (World.setCell _ ⟨go13, (x1_1 : Int).toNat * 2, none⟩ (.int .i64 ((rd_T68 x127000_1 (ji8)).f0))) ⟨go13, (x1_1 : Int).toNat * 2 + 1, none⟩ (.int .i64 ((rd_T68 x127000_1 (ji8)).f1))) _ = _ at hf14_1
         clear hcl14 hcc14 hfr14 hM14
         replace p14 := eq_true p14
         replace q14 := eq_true q14
         obtain ⟨ce19, hcl19, hM19, hcc19, hfr19⟩ := Kd.R_elem HQ18.out z68 ((ji8) : Int) (od_) (by have h_ : ((ji8) : Int) < ((x127000_1.length : Int) : Int) := od_; first | exact h_ | (have e_ := (Kd.R_reads' HO_127000.out).1; omega) | simpa using h_)
         obtain rfl := k68_openM hM19
         have HP19 := (Kd.R_seg HQ18.out ((ji8) : Int) (od_) (by have h_ : ((ji8) : Int) < ((x127000_1.length : Int) : Int) := od_; first | exact h_ | (have e_ := (Kd.R_reads' HO_127000.out).1; omega) | simpa using h_) (seg := [.int .i64 ((rd_T68 x127000_1 x1_1).f0), .int .i64 ((rd_T68 x127000_1 x1_1).f1)]) (j := 0) hcl19 hcc19 (show 2 ≤ 2 from by decide) (x' := (⟨(rd_T68 x127000_1 x1_1).f0, (rd_T68 x127000_1 x1_1).f1⟩ : S68)) (k68_mkM _ _ _ (⟨(rd_T68 x127000_1 x1_1).f0, (rd_T68 x127000_1 x1_1).f1⟩ : S68) ) (fun _ hk => by first | exact hk | grind)).1
         rw [← Ny133.out] at HP19
         have HQ19 := Aside0.mk HP19
         clear hcl19 hcc19 hfr19 hM19 HP19
         refine start_ (n := 20) (S := fun w' => cw_ w' gb126 0 (.slice (some ⟨go13, 0, none⟩) x127000_1.length co3) ∧ w'.cell? ⟨go13, (((ji8)).toNat * 2), none⟩ = some (.int .i64 ((rd_T68 x127000_1 (ji8)).f0)) ∧ w'.cell? ⟨go13, (((ji8)).toNat * 2) + 1, none⟩ = some (.int .i64 ((rd_T68 x127000_1 (ji8)).f1)) ∧ w'.cell? ⟨go13, ((x1_1).toNat * 2), none⟩ = some (.int .i64 ((rd_T68 x127000_1 x1_1).f0)) ∧ w'.cell? ⟨go13, ((x1_1).toNat * 2) + 1, none⟩ = some (.int .i64 ((rd_T68 x127000_1 x1_1).f1))) (ds := [17, 19]) (bs 20 0) (by kernel_rfl) rfl rfl ⟨bt_ BK126 0, hx130_0, hx130_1, hx131_0, hx131_1⟩ (fun hHeld => ?_); refine with_tabW impl_Heap_up.tab3 impl_Heap_up.bits3 (fun HT_ HW_ => ?_)
         generalize w16.drew = w17 at HO_127000 BK126 HK HB GG13 HQ18 HQ19 hf13_0 hf13_1 hf14_0 hf14_1 hx127_0 hx127_1 hx128_0 hx128_1 hx130_0 hx130_1 hx131_0 hx131_1 hx13_0 hx13_1 hx14_0 hx14_1 hHeld ⊢
         refine psn_ HT_ ?_
         refine ps_ 2 28 (bm 20 5) HT_ ?_
         refine ps_ 3 29 (bm 20 13) HT_ ?_
         refine ps_ 5 31 (bm 20 45) HT_ ?_
         refine ps_ 6 32 (bm 20 109) HT_ ?_
         refine ps_ 8 34 (bm 20 365) HT_ ?_
         refine ps_ 11 37 (bm 20 2413) HT_ ?_
         refine ps_ 13 39 (bm 20 10605) HT_ ?_
         refine tk_ 1 27 (bm 20 10607) HT_ HW_ hHeld ?_
         refine tk_ 7 33 (bm 20 10735) HT_ HW_ hHeld ?_
         refine ps_ 9 35 (bm 20 11247) HT_ ?_
         refine tk_ 10 36 (bm 20 12271) HT_ HW_ hHeld ?_
         refine tk_ 12 38 (bm 20 16367) HT_ HW_ hHeld ?_
         refine ps_ 14 40 (bm 20 32751) HT_ ?_
         refine tk_ 15 41 (bm 20 65519) HT_ HW_ hHeld ?_
         refine ps_ 16 42 (bm 20 131055) HT_ ?_
         refine late_ (i := 4) (j := 17) (N := 30) (v := ?lv_1) (w1 := ?lw_1) (a' := ?la_1) (bs 20 17) (bm 20 262127) rfl rfl rfl rfl (by kernel_rfl) (by decide) ?h1_1 ?h2_1 ?h3_1 ?ha_1 rfl ?hp_1 ?hx_1 ?hwi_1 ?hwj_1 ?hwk_1 ?_
         (case h1_1 => obtain ⟨s0, s1, s2, s3, s4⟩ := hHeld; go_simp <;> (first | rfl | (constructor <;> rfl) | (refine ⟨?_, ?_⟩ <;> rfl)))
         (case h2_1 => go_simp; rfl)
         (case h3_1 => obtain ⟨s0, s1, s2, s3, s4⟩ := hHeld; have hb_ : go13 ≠ gb126 := fun e_ => (Kd.R_ne HO_127000.out BK126.out (by decide)) (by rw [e_]; rfl); have hb2_ := hb_.symm; go_simp <;> (first | rfl | (constructor <;> rfl) | (refine ⟨?_, ?_⟩ <;> rfl)))
         (case ha_1 => simp only [Act.put, ls0_, ls1_, ls2_, i64_w, i32_w]; rfl)
         (case hp_1 => rfl)
         (case hx_1 => rfl)
         (case hwi_1 => rfl)
         (case hwj_1 => rfl)
         (case hwk_1 => rfl)
         refine last_ (i := 17) (N := none) (bs 20 18) rfl rfl (one_of HT_.out (by kernel_rfl)) (by decide) (fun K hK => ?_)
         refine skip_ (w1 := ?_) (by rfl) rfl ?_ ?_
         rotate_left
         ·go_simp
          rfl
         refine hK.out _ _ ?_
         clear hK K
         refine ps_ 18 43 (bs 20 19) HT_ ?_
         refine last_ (i := 19) (N := none) (bs 20 20) rfl rfl (one_of HT_.out (by kernel_rfl)) (by decide) (fun K hK => ?_)
         refine skip_ (w1 := ?_) (by rfl) rfl ?_ ?_
         rotate_left
         ·go_simp
          rfl
         refine hK.out _ _ ?_
         clear hK K
         refine done_ (done_of HT_.out (by kernel_rfl)) ?_
         try go_wp2
         (try simp only [← hl127000_1])
         go_roundg k1
         case measure => have := HK1.out; omega
         case rel => exact ⟨(ji8), (y133), (by first | rfl | (simp; done) | (simp only [← hji8] <;> (first | rfl | simp)) | (simp [*]; done)), H', ⟨by have := HK1.out; omega⟩, ⟨by (try simp only [hl127000_1]); exact kr_ HQ19⟩, ⟨by (try simp only [hl127000_1]); (with_reducible repeat (first | refine blk_drewN ?_ _ | refine blk_drew ?_ | refine blk_alloc ?_ _)); refine blk_far ?_ (by have h_ := Kd.R_ne HO_127000.out BK126.out (by decide); intro e_; exact h_ (by rw [e_]; rfl)) _; (with_reducible repeat (first | refine blk_drewN ?_ _ | refine blk_drew ?_ | refine blk_alloc ?_ _)); refine blk_far ?_ (by have h_ := Kd.R_ne HO_127000.out BK126.out (by decide); intro e_; exact h_ (by rw [e_]; rfl)) _; (with_reducible repeat (first | refine blk_drewN ?_ _ | refine blk_drew ?_ | refine blk_alloc ?_ _)); refine blk_far ?_ (by have h_ := Kd.R_ne HO_127000.out BK126.out (by decide); intro e_; exact h_ (by rw [e_]; rfl)) _; (with_reducible repeat (first | refine blk_drewN ?_ _ | refine blk_drew ?_ | refine blk_alloc ?_ _)); refine blk_far ?_ (by have h_ := Kd.R_ne HO_127000.out BK126.out (by decide); intro e_; exact h_ (by rw [e_]; rfl)) _; exact bk_ BK126⟩, ⟨by repeat (first | (with_reducible first | exact HK.out | apply Kept.alloc | apply Kept.drewN | apply Kept.drew | refine Kept.setCell ?_ HMgo13.out _ | refine Kept.setCell ?_ HMgo13.out _ | refine Kept.setCell ?_ HMgo13.out _ | refine Kept.setCell ?_ HMgo13.out _ | refine Kept.setCell ?_ (.inr GW126.out) _) | exact HK.out)⟩, ⟨by repeat (first | (with_reducible first | exact HB.out | apply below_alloc | apply pw_below_drewN | apply below_drew1 | refine below_set ?_ GB13.out | refine below_set ?_ GB13.out | refine below_set ?_ GB13.out | refine below_set ?_ GB13.out | refine below_set ?_ GE126.out) | exact HB.out)⟩⟩
        ·replace c12 := Bool.eq_false_iff.mpr c12
         subst c12
         rw [if_neg (show ¬ (false = true) by decide)] at H
         simp only [Option.some.injEq, Prod.mk.injEq] at H
         obtain ⟨rfl, rfl⟩ := H
         try go_wp2
         have n0_ := Aside0.mk (Kd.R_drew HO_127000.out); have n1_ := Aside0.mk (blk_drew BK126.out); have n2_ := Aside0.mk (Kept.drew HK.out); have n3_ := Aside0.mk (below_drew1 HB.out); clear HO_127000 BK126 HK HB; have HO_127000 := n0_; have BK126 := n1_
         have HK := n2_
         have HB := n3_; clear n0_ n1_ n2_ n3_
         have p127 : 0 ≤ (x1_1 : Int) := od_
         have q127 : x1_1 < (x127000_1.length : Int) := od_
         obtain ⟨ad127, e127, hx127_0, hx127_1⟩ := at_T68 (Kd.R_reads' HO_127000.out).2.2 x1_1 p127 q127
         cases e127
         replace p127 := eq_true p127
         replace q127 := eq_true q127
         have p128 : 0 ≤ ((ji8) : Int) := od_
         have q128 : (ji8) < (x127000_1.length : Int) := od_
         obtain ⟨ad128, e128, hx128_0, hx128_1⟩ := at_T68 (Kd.R_reads' HO_127000.out).2.2 (ji8) p128 q128
         obtain rfl : ad127 = ad128 := (by injection e128)
         replace p128 := eq_true p128
         replace q128 := eq_true q128
         refine start_ (n := 17) (S := fun w' => cw_ w' gb126 0 (.slice (some ad127) x127000_1.length co3) ∧ w'.cell? (ad127.add ((x1_1).toNat * 2)) = some (.int .i64 ((rd_T68 x127000_1 x1_1).f0)) ∧ w'.cell? ⟨(ad127.add ((x1_1).toNat * 2)).block, (ad127.add ((x1_1).toNat * 2)).off + 1, none⟩ = some (.int .i64 ((rd_T68 x127000_1 x1_1).f1)) ∧ w'.cell? (ad127.add (((ji8)).toNat * 2)) = some (.int .i64 ((rd_T68 x127000_1 (ji8)).f0)) ∧ w'.cell? ⟨(ad127.add (((ji8)).toNat * 2)).block, (ad127.add (((ji8)).toNat * 2)).off + 1, none⟩ = some (.int .i64 ((rd_T68 x127000_1 (ji8)).f1))) (ds := []) (bs 17 0) (by kernel_rfl) rfl rfl ⟨bt_ BK126 0, hx127_0, hx127_1, hx128_0, hx128_1⟩ (fun hHeld => ?_); refine with_tabW impl_Heap_up.tab1 impl_Heap_up.bits1 (fun HT_ HW_ => ?_)
         generalize wr.drew = w20 at HO_127000 BK126 HK HB hx127_0 hx127_1 hx128_0 hx128_1 hHeld ⊢
         iterate 4 (refine psn_ HT_ ?_)
         refine ps_ 5 11 (bm 17 47) HT_ ?_
         refine ps_ 8 14 (bm 17 303) HT_ ?_
         refine ps_ 10 16 (bm 17 1327) HT_ ?_
         refine ps_ 11 17 (bm 17 3375) HT_ ?_
         refine ps_ 12 18 (bm 17 7471) HT_ ?_
         refine tk_ 4 10 (bm 17 7487) HT_ HW_ hHeld ?_
         refine ps_ 6 12 (bm 17 7551) HT_ ?_
         refine tk_ 7 13 (bm 17 7679) HT_ HW_ hHeld ?_
         refine tk_ 9 15 (bs 17 13) HT_ HW_ hHeld ?_
         refine psn_ HT_ ?_
         refine tkn_ HT_ HW_ hHeld ?_
         refine on_ 15 (some 21) (bs 17 16) HT_ (fun K hK => ?_)
         refine goes_ Try.func68 (by kernel_rfl) rfl #[.agg #[.int .i64 ((rd_T68 x127000_1 x1_1).f0), .int .i64 ((rd_T68 x127000_1 x1_1).f1)], .agg #[.int .i64 ((rd_T68 x127000_1 (ji8)).f0), .int .i64 ((rd_T68 x127000_1 (ji8)).f1)]] (by rfl) rfl rfl (by (try simp only [List.map_toArray, List.map_cons, List.map_nil]); first | done | (simp only [hji8]; rfl) | rfl | (simp only [List.length_drop, List.length_take]; rfl)) ?_
         with_reducible refine (impl_Ahead.calls ((rd_T68 x127000_1 x1_1).f0) ((rd_T68 x127000_1 x1_1).f1) ((rd_T68 x127000_1 (ji8)).f0) ((rd_T68 x127000_1 (ji8)).f1) false _ A11.out).mono ?_
         rintro e w21 ⟨rfl, hb⟩
         have HS1_ := hc_ hb hHeld.2.1
         have HS2_ := hc_ hb hHeld.2.2.1
         have HS3_ := hc_ hb hHeld.2.2.2.1
         have HS4_ := hc_ hb hHeld.2.2.2.2
         refine ⟨_, rfl, ?_⟩
         have n0_ := Aside0.mk (Kd.R_below (kr_ HO_127000) hb); have n1_ := bb_ BK126 hb
         have n2_ := Aside0.mk (Kept.below (S := (fun k_ => P0_0_ k_)) (by repeat (first | (with_reducible first | exact HK.out | apply Kept.alloc | apply Kept.drewN | apply Kept.drew | refine Kept.setCell ?_ (.inr GW126.out) _) | exact HK.out)) hb)
         have n3_ := Aside0.mk (below_step (bf_ HB) hb); clear HO_127000 BK126 HK HB; have HO_127000 := n0_; have BK126 := n1_
         have HK := n2_
         have HB := n3_; clear n0_ n1_ n2_ n3_; (try clear hb); (try clear hb2); (try clear hk); (try clear hi)
         refine hK.out _ _ ⟨bt_ BK126 0, HS1_, HS2_, HS3_, HS4_⟩ (fun hHeld => ?_)
         clear hK K
         refine norm_ (a' := ?_) ?_ ?_
         rotate_left
         ·show Act.put _ (some 21) _ = _
          simp only [Act.put, ls0_, ls1_, ls2_, i64_w, i32_w]
          rfl
         refine psn_ HT_ ?_
         refine done_ (done_of HT_.out (by kernel_rfl)) ?_
         try go_wp2
         go_ret
         exact ⟨by first | rfl | (simp [errW_none, errW_some] <;> rfl) | (simp only [← hji8]; first | rfl | (simp [errW_none, errW_some] <;> rfl)) | (simp [*, errW_none, errW_some] <;> rfl), (by first | exact (kr_ HO_127000) | (simp only [hl127000_1]; exact (kr_ HO_127000))), by repeat (first | (with_reducible first | exact HB.out | apply below_alloc | apply pw_below_drewN | apply below_drew1 | refine below_set ?_ GE126.out) | exact HB.out), by repeat (first | (with_reducible first | exact HK.out | apply Kept.alloc | apply Kept.drewN | apply Kept.drew | refine Kept.setCell ?_ (.inr GW126.out) _) | exact HK.out)⟩
       ·rw [if_neg c10] at H
        exact absurd H (by simp)
      ·rw [if_neg c9] at H
       exact absurd H (by simp)
     ·rw [if_neg c7] at H
      exact absurd H (by simp)
    ·rw [if_neg c6] at H
     exact absurd H (by simp)
   ·rw [if_neg c5] at H
    have c5b0 : decide (0 < x1_1) = false := decide_eq_false c5
    have c5b0l := c5b0
    (try simp only [hl127000_1] at c5b0l)
    clear c5
    simp only [Option.some.injEq, Prod.mk.injEq] at H
    obtain ⟨rfl, rfl⟩ := H
    try go_wp2
    have n0_ := Aside0.mk (Kd.R_drew HO_127000.out); have n1_ := Aside0.mk (blk_drew BK126.out); have n2_ := Aside0.mk (Kept.drew HK.out); have n3_ := Aside0.mk (below_drew1 HB.out); clear HO_127000 BK126 HK HB; have HO_127000 := n0_; have BK126 := n1_
    have HK := n2_
    have HB := n3_; clear n0_ n1_ n2_ n3_
    refine start_ (n := 17) (S := fun w' => True) (ds := []) (bs 17 0) (by kernel_rfl) rfl rfl trivial (fun hHeld => ?_); refine with_tabW impl_Heap_up.tab1 impl_Heap_up.bits1 (fun HT_ HW_ => ?_)
    generalize wr.drew = w22 at HO_127000 BK126 HK HB hHeld ⊢
    iterate 3 (refine psn_ HT_ ?_)
    iterate 13 (refine pun_ HT_ ?_)
    refine psn_ HT_ ?_
    refine done_ (done_of HT_.out (by kernel_rfl)) ?_
    try go_wp2
    go_ret
    exact ⟨by first | rfl | (simp [errW_none, errW_some] <;> rfl) | (simp [*, errW_none, errW_some] <;> rfl), (by first | exact (kr_ HO_127000) | (simp only [hl127000_1]; exact (kr_ HO_127000))), by repeat (first | (with_reducible first | exact HB.out | apply below_alloc | apply pw_below_drewN | apply below_drew1 | refine below_set ?_ GE126.out) | exact HB.out), by repeat (first | (with_reducible first | exact HK.out | apply Kept.alloc | apply Kept.drewN | apply Kept.drew | refine Kept.setCell ?_ (.inr GW126.out) _) | exact HK.out)⟩

end Go.Proofs.Ytnklakficjpmoaa.PFnHeapBook
