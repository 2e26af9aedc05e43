-- printed by a program of this session (wip/printx) out of the translation; Lean checks it
import Derived.Test.YtnklakficjpmoaaVFnHeapBook
import Derived.Test.YtnklakficjpmoaaPFnHeapBookx0
import Derived.Test.YtnklakficjpmoaaPFnHeapBookx2
namespace Go.Proofs.Ytnklakficjpmoaa.PFnHeapBook
open Go.RowKit Go.Proofs.YtnklakficjpmoaaW.PrintWords Go.Proofs.YtnklakficjpmoaaW.PrintLast Go.Proofs.YtnklakficjpmoaaW.PrintMore
attribute [local go_sem] max2_int min2_int max_two min_two max_three min_three max_four min_four   -- for this text's walks alone
set_option linter.unusedVariables false
set_option linter.unusedSimpArgs false

/-! ### impl_Heap_down: function 103 -/
mutual
def impl_Heap_down.l0 : Nat → Int → List (S68) → Option ((List (S68)))
  | 0, _, _ => none
  | k + 1, x1, x135000 => if (wrap64 ((wrap64 ((wrap64 (2 * x1)) + 1)) + 1)) < (x135000.length : Int) then (if 0 ≤ (wrap64 ((wrap64 ((wrap64 (2 * x1)) + 1)) + 1)) then (if 0 ≤ (wrap64 ((wrap64 (2 * x1)) + 1)) then (if (wrap64 ((wrap64 (2 * x1)) + 1)) < (x135000.length : Int) then ((impl_Ahead.f ((rd_T68 x135000 (wrap64 ((wrap64 ((wrap64 (2 * x1)) + 1)) + 1))).f0) ((rd_T68 x135000 (wrap64 ((wrap64 ((wrap64 (2 * x1)) + 1)) + 1))).f1) ((rd_T68 x135000 (wrap64 ((wrap64 (2 * x1)) + 1))).f0) ((rd_T68 x135000 (wrap64 ((wrap64 (2 * x1)) + 1))).f1)).bind fun t137 => (impl_Heap_down.j1 k x1 (wrap64 ((wrap64 (2 * x1)) + 1)) t137 x135000)) else (none)) else (none)) else (none)) else (impl_Heap_down.j1 k x1 (wrap64 ((wrap64 (2 * x1)) + 1)) false x135000)
def impl_Heap_down.j1 : Nat → Int → Int → Bool → List (S68) → Option ((List (S68)))
  | 0, _, _, _, _ => none
  | k + 1, x1, x4, x27, x135000 => if x27 = true then (if (wrap64 (x4 + 1)) ≥ (x135000.length : Int) then (some x135000) else (if 0 ≤ (wrap64 (x4 + 1)) then (if (wrap64 (x4 + 1)) < (x135000.length : Int) then (if 0 ≤ x1 then (if x1 < (x135000.length : Int) then ((impl_Ahead.f ((rd_T68 x135000 (wrap64 (x4 + 1))).f0) ((rd_T68 x135000 (wrap64 (x4 + 1))).f1) ((rd_T68 x135000 x1).f0) ((rd_T68 x135000 x1).f1)).bind fun t140 => (if t140 = true then (impl_Heap_down.l0 k (wrap64 (x4 + 1)) ((x135000.set (x1 : Int).toNat (⟨(rd_T68 x135000 (wrap64 (x4 + 1))).f0, (rd_T68 x135000 (wrap64 (x4 + 1))).f1⟩ : S68)).set ((wrap64 (x4 + 1)) : Int).toNat (⟨(rd_T68 x135000 x1).f0, (rd_T68 x135000 x1).f1⟩ : S68))) else (some x135000))) else (none)) else (none)) else (none)) else (none))) else (if x4 ≥ (x135000.length : Int) then (some x135000) else (if 0 ≤ x4 then (if x4 < (x135000.length : Int) then (if 0 ≤ x1 then (if x1 < (x135000.length : Int) then ((impl_Ahead.f ((rd_T68 x135000 x4).f0) ((rd_T68 x135000 x4).f1) ((rd_T68 x135000 x1).f0) ((rd_T68 x135000 x1).f1)).bind fun t147 => (if t147 = true then (impl_Heap_down.l0 k x4 ((x135000.set (x1 : Int).toNat (⟨(rd_T68 x135000 x4).f0, (rd_T68 x135000 x4).f1⟩ : S68)).set (x4 : Int).toNat (⟨(rd_T68 x135000 x1).f0, (rd_T68 x135000 x1).f1⟩ : S68))) else (some x135000))) else (none)) else (none)) else (none)) else (none)))
end
def impl_Heap_down.f (k : Nat) (l0_0 : List (S68)) (a1 : Int) : Option ((List (S68))) := impl_Heap_down.l0 k a1 l0_0
theorem impl_Heap_down.mono_l : ∀ k, (∀ y0 y1, LeO (impl_Heap_down.l0 k y0 y1) (impl_Heap_down.l0 (k + 1) y0 y1)) ∧ (∀ y0 y1 y2 y3, LeO (impl_Heap_down.j1 k y0 y1 y2 y3) (impl_Heap_down.j1 (k + 1) y0 y1 y2 y3))
 | 0 => ⟨fun _ _ r h => by simp [impl_Heap_down.l0] at h, fun _ _ _ _ r h => by simp [impl_Heap_down.j1] at h⟩
 | k + 1 => by
  obtain ⟨ih0, ih1⟩ := impl_Heap_down.mono_l k
  refine ⟨?_, ?_⟩ <;> intros <;> (first | unfold impl_Heap_down.l0 | unfold impl_Heap_down.j1) <;> repeat' (first | (with_reducible exact ih0 ..) | (with_reducible exact ih1 ..) | (with_reducible exact LeO.refl _) | (with_reducible exact LeO.none _) | (with_reducible refine LeO.ite ?_ ?_) | (with_reducible refine LeO.bind ?_ (fun _ => ?_)) | exact ih0 .. | exact ih1 .. | exact LeO.none _ | refine LeO.ite ?_ ?_ | refine LeO.bind ?_ (fun _ => ?_))
theorem impl_Heap_down.mono : ∀ a0 a1 k, LeO (impl_Heap_down.f k a0 a1) (impl_Heap_down.f (k + 1) a0 a1) := by
 intro a0 a1 k
 obtain ⟨ih0, ih1⟩ := impl_Heap_down.mono_l k
 unfold impl_Heap_down.f
 repeat' (first | (with_reducible exact ih0 ..) | (with_reducible exact ih1 ..) | (with_reducible exact LeO.refl _) | (with_reducible exact LeO.none _) | (with_reducible refine LeO.ite ?_ ?_) | (with_reducible refine LeO.bind ?_ (fun _ => ?_)) | exact ih0 .. | exact ih1 .. | exact LeO.none _ | refine LeO.ite ?_ ?_ | refine LeO.bind ?_ (fun _ => ?_))
def impl_Heap_down.T2 : Bool × List (List Nat × List Nat) := (true, [([], []), ([0], [0]), ([], []), ([2], [2]), ([3], [3]), ([1, 4], [1, 4]), ([5], [5]), ([6], [6]), ([7, 6], [6, 7]), ([6], [6]), ([9, 6], [6, 9]), ([8, 10, 6], [6, 8, 10]), ([11, 6], [6, 11]), ([6], [6]), ([13, 6], [6, 13]), ([6], [6]), ([14, 15, 6], [6, 14, 15]), ([16, 6], [6, 16]), ([12, 17, 6, 6], [6, 12, 17]), ([6, 18], [6, 18])])
def impl_Heap_down.B2 : List Nat := [0, 1, 0, 4, 12, 31, 63, 127, 255, 127, 639, 2047, 4095, 127, 8319, 127, 57471, 123007, 262143, 524287]
theorem impl_Heap_down.tab2 : rtab .any (opsOf Try.f103 2) = impl_Heap_down.T2 := by kernel_rfl
theorem impl_Heap_down.bits2 : waitsOk impl_Heap_down.T2.2 impl_Heap_down.B2 = true := by kernel_rfl
def impl_Heap_down.T4 : Bool × List (List Nat × List Nat) := (true, [([], []), ([], []), ([1], [1]), ([2], [2]), ([0, 3], [0, 3]), ([4], [4]), ([5], [5]), ([6, 5], [5, 6]), ([5], [5]), ([7, 8, 5], [5, 7, 8]), ([9, 5], [5, 9]), ([5], [5]), ([11, 5], [5, 11]), ([5], [5]), ([12, 13, 5], [5, 12, 13]), ([14, 5], [5, 14]), ([10, 15, 5, 5], [5, 10, 15]), ([16, 5], [5, 16]), ([5, 17], [5, 17])])
def impl_Heap_down.B4 : List Nat := [0, 0, 2, 6, 15, 31, 63, 127, 63, 511, 1023, 63, 2111, 63, 14399, 30783, 65535, 131071, 262143]
theorem impl_Heap_down.tab4 : rtab .any (opsOf Try.f103 4) = impl_Heap_down.T4 := by kernel_rfl
theorem impl_Heap_down.bits4 : waitsOk impl_Heap_down.T4.2 impl_Heap_down.B4 = true := by kernel_rfl
def impl_Heap_down.T5 : Bool × List (List Nat × List Nat) := (true, [([], []), ([0], [0]), ([], []), ([], []), ([3], [3]), ([], []), ([], []), ([6], [6]), ([], []), ([7, 8], [7, 8]), ([9], [9]), ([], []), ([11], [11]), ([], []), ([12, 13], [12, 13]), ([14], [14]), ([1, 2, 0, 1, 2, 6, 7, 8, 9, 10, 15], [1, 2]), ([16, 10, 0, 1, 2, 6, 7, 8, 9, 10, 15], [10, 16]), ([4, 5, 0, 1, 2, 3, 4, 5, 6, 7, 8, 9, 10, 11, 12, 13, 14, 15, 16, 17], [4, 5]), ([18, 15, 17, 0, 1, 2, 3, 4, 5, 6, 7, 8, 9, 10, 11, 12, 13, 14, 15, 16, 17], [15, 18])])
def impl_Heap_down.B5 : List Nat := [0, 1, 0, 0, 8, 0, 0, 64, 0, 448, 960, 0, 2048, 0, 14336, 30720, 65479, 131015, 262143, 524287]
theorem impl_Heap_down.tab5 : rtab .any (opsOf Try.f103 5) = impl_Heap_down.T5 := by kernel_rfl
theorem impl_Heap_down.bits5 : waitsOk impl_Heap_down.T5.2 impl_Heap_down.B5 = true := by kernel_rfl
set_option maxHeartbeats 8000000 in
set_option maxRecDepth 100000 in
theorem impl_Heap_down.calls (k : Nat) (P0_0_ : Nat → Prop) (u9000_ : Value) (l0_0 : List (S68)) (a1 : Int) (r : List (S68)) (w0 w : World) (hB : Below w0.heap.size w0 w) (ho0_0 : Kd.R k68 68 w w0.heap.size P0_0_ u9000_ l0_0) (h : impl_Heap_down.f k l0_0 a1 = some r) :
  Calls Try.prog 103 #[.agg #[u9000_], .int .i64 a1] w fun e w' => e = .returned (.tuple #[]) ∧ Kd.R k68 68 w' w0.heap.size (fun k_ => (P0_0_ k_ ∨ w.heap.size ≤ k_)) u9000_ r ∧ Below w0.heap.size w0 w' ∧ Kept w w' (fun k_ => P0_0_ k_) := by
 have hu29 := Try.underlying29; have hu68 := Try.underlying68
 have HO0_0 := Aside0.mk (show Kd.R k68 68 w w0.heap.size (fun k_ => (P0_0_ k_ ∨ w.heap.size ≤ k_)) u9000_ l0_0 from Kd.R_mono ho0_0 (fun k_ hk => by first | exact (.inl hk) | grind))
 have HK := Aside0.mk (Kept.refl w (fun k_ => P0_0_ k_))
 have HW0 := Aside0.mk hB.size
 have HB := Aside0.mk hB; clear hB
 have H := h
 clear h
 unfold impl_Heap_down.f at H
 have H' := Aside0.mk H
 clear H
 obtain ⟨Ao3, co3, eo3⟩ := Kd.R_slice HO0_0.out
 subst eo3
 go_enter Try.func103, Try.ntmps103
 go_wp2_with (first | ((with_reducible refine gd_ 2 rfl ?_); refine bv_ 2 #[.slice Ao3 l0_0.length co3] 29 ?_; intro gb134 hg w4 hbox hb; replace HO0_0 := Aside0.mk (Kd.R_below (kr_ HO0_0) hb); have BK134 := Aside0.mk (hbox); have GW134 := Aside0.mk ((by rw [hg]; exact (by first | exact HK.out.1 | exact (show Kept w _ (fun k_ => P0_0_ k_) from by repeat (first | (with_reducible first | exact HK.out | apply Kept.alloc | apply Kept.drewN | apply Kept.drew) | exact HK.out)).1) : w.heap.size ≤ gb134)); replace HK := Aside0.mk (Kept.below (S := (fun k_ => P0_0_ k_)) (by repeat (first | (with_reducible first | exact HK.out | apply Kept.alloc | apply Kept.drewN | apply Kept.drew) | exact HK.out)) hb); have GE134 := Aside0.mk ((by rw [hg]; exact (below_size (be_ HB)) : w0.heap.size ≤ gb134)); replace HB := Aside0.mk (below_step (be_ HB) hb); clear hb hbox hg))
 (try simp only [Act.put, ls0_, ls1_, ls2_])
 go_loopg [1] k (fun kq v1 w' => ∃ (x1_1 : Int) (x135000_1 : List (S68)), v1 = .int .i64 x1_1 ∧ Aside0 (impl_Heap_down.l0 kq x1_1 x135000_1 = some r) ∧ Aside0 (kq ≤ k) ∧ Aside0 (Kd.R k68 68 w' w0.heap.size (fun k_ => (P0_0_ k_ ∨ w.heap.size ≤ k_)) (.slice Ao3 l0_0.length co3) x135000_1) ∧ Aside0 (w'.heap[gb134]? = some (.cells #[(.slice Ao3 l0_0.length co3)] 29 (0, 0))) ∧ Aside0 (Kept w w' (fun k_ => P0_0_ k_)) ∧ Aside0 (Below w0.heap.size w0 w'))
 case atStart => exact ⟨(a1), (l0_0), (by first | rfl | (simp; done) | (simp [*]; done)), H', ⟨Nat.le_refl _⟩, ⟨kr_ HO0_0⟩, ⟨bk_ BK134⟩, ⟨by repeat (first | (with_reducible first | exact HK.out | apply Kept.alloc | apply Kept.drewN | apply Kept.drew | refine Kept.setCell ?_ (.inr GW134.out) _) | exact HK.out)⟩, ⟨bf_ HB⟩⟩
 case round =>
  clear H'
  (try clear c1); (try clear p2)
  obtain ⟨x1_1, x135000_1, rfl, HA, HK1, HO_135000, BK134, HK, HB⟩ := hrel
  have hl135000_1 := (Kd.R_reads' HO_135000.out).1
  rw [hl135000_1] at HO_135000
  (try simp only [hl135000_1])
  (try simp only [hl135000_1] at BK134)
  cases gk with
  | zero => exact absurd HA.out (by simp [impl_Heap_down.l0])
  | succ k1 =>
   have H := HA.out
   clear HA
   simp only [impl_Heap_down.l0] at H
   have HC5 := Aside0.mk H
   clear H
   go_upto_region 2 with (fail)
   go_cut [27] (fun v27 wc => ∃ (kq : Nat) (x27_4 : Bool), v27 = .bool x27_4 ∧ Aside0 (impl_Heap_down.j1 kq x1_1 (wrap64 ((wrap64 (2 * x1_1)) + 1)) x27_4 x135000_1 = some r) ∧ Aside0 (kq ≤ k1) ∧ Aside0 (Kd.R k68 68 wc w0.heap.size (fun k_ => (P0_0_ k_ ∨ w.heap.size ≤ k_)) (.slice Ao3 x135000_1.length co3) x135000_1) ∧ Aside0 (wc.heap[gb134]? = some (.cells #[(.slice Ao3 x135000_1.length co3)] 29 (0, 0))) ∧ Aside0 (Kept w wc (fun k_ => P0_0_ k_)) ∧ Aside0 (Below w0.heap.size w0 wc))
   case first =>
    have H := HC5.out
    clear HC5
    by_cases c6 : (wrap64 ((wrap64 ((wrap64 (2 * x1_1)) + 1)) + 1)) < (x135000_1.length : Int)
    ·rw [if_pos c6] at H
     have c6b0 : decide ((wrap64 ((wrap64 ((wrap64 (2 * x1_1)) + 1)) + 1)) < (x135000_1.length : Int)) = true := decide_eq_true c6
     have c6b0l := c6b0
     (try simp only [hl135000_1] at c6b0l)
     clear c6
     (first | rw [c6b0] | (simp only [i64_w, i32_w]; rw [c6b0]) | skip)
     obtain ⟨ji7, hji7⟩ : ∃ j_ : Int, (wrap64 ((wrap64 ((wrap64 (2 * x1_1)) + 1)) + 1)) = j_ := ⟨_, rfl⟩
     replace H : (if 0 ≤ (ji7) then (if 0 ≤ (wrap64 ((wrap64 (2 * x1_1)) + 1)) then (if (wrap64 ((wrap64 (2 * x1_1)) + 1)) < (x135000_1.length : Int) then ((impl_Ahead.f ((rd_T68 x135000_1 (ji7)).f0) ((rd_T68 x135000_1 (ji7)).f1) ((rd_T68 x135000_1 (wrap64 ((wrap64 (2 * x1_1)) + 1))).f0) ((rd_T68 x135000_1 (wrap64 ((wrap64 (2 * x1_1)) + 1))).f1)).bind fun t137 => (impl_Heap_down.j1 k1 x1_1 (wrap64 ((wrap64 (2 * x1_1)) + 1)) t137 x135000_1)) else (none)) else (none)) else (none)) = some r := by first | (rw [hji7] at H; exact H) | (simp only [hji7] at H ⊢; exact H)
     (try rw [hji7] at c6b0)
     have hji7w : (IntKind.i64.wrap ((wrap64 ((wrap64 (2 * x1_1)) + 1)) + 1)) = ji7 := (i64_w _).trans hji7
     by_cases c8 : 0 ≤ (ji7)
     ·rw [if_pos c8] at H
      have c8b0 : decide (0 ≤ (ji7)) = true := decide_eq_true c8
      have c8b0l := c8b0
      (try simp only [hl135000_1] at c8b0l)
      clear c8
      obtain ⟨ji9, hji9⟩ : ∃ j_ : Int, (wrap64 ((wrap64 (2 * x1_1)) + 1)) = j_ := ⟨_, rfl⟩
      replace H : (if 0 ≤ (ji9) then (if (ji9) < (x135000_1.length : Int) then ((impl_Ahead.f ((rd_T68 x135000_1 (ji7)).f0) ((rd_T68 x135000_1 (ji7)).f1) ((rd_T68 x135000_1 (ji9)).f0) ((rd_T68 x135000_1 (ji9)).f1)).bind fun t137 => (impl_Heap_down.j1 k1 x1_1 ji9 t137 x135000_1)) else (none)) else (none)) = some r := by first | (rw [hji9] at H; exact H) | (simp only [hji9] at H ⊢; exact H)
      (try rw [hji9] at c6b0)
      have hji9w : (IntKind.i64.wrap ((wrap64 (2 * x1_1)) + 1)) = ji9 := (i64_w _).trans hji9
      (try rw [hji9] at hji7)
      (try rw [hji9] at hji7w)
      by_cases c10 : 0 ≤ (ji9)
      ·rw [if_pos c10] at H
       have c10b0 : decide (0 ≤ (ji9)) = true := decide_eq_true c10
       have c10b0l := c10b0
       (try simp only [hl135000_1] at c10b0l)
       clear c10
       by_cases c11 : (ji9) < (x135000_1.length : Int)
       ·rw [if_pos c11] at H
        have c11b0 : decide ((ji9) < (x135000_1.length : Int)) = true := decide_eq_true c11
        have c11b0l := c11b0
        (try simp only [hl135000_1] at c11b0l)
        clear c11
        replace H := Option.bind_eq_some_iff.mp H
        obtain ⟨t137, A120, H⟩ := H
        have A12 := Aside0.mk A120
        clear A120
        have H' := Aside0.mk H
        clear H
        try go_wp2
        have n0_ := Aside0.mk (Kd.R_drew HO_135000.out); have n1_ := Aside0.mk (blk_drew BK134.out); have n2_ := Aside0.mk (Kept.drew HK.out); have n3_ := Aside0.mk (below_drew1 HB.out); clear HO_135000 BK134 HK HB; have HO_135000 := n0_; have BK134 := n1_
        have HK := n2_
        have HB := n3_; clear n0_ n1_ n2_ n3_
        have p135 : 0 ≤ ((ji7) : Int) := od_
        have q135 : (ji7) < (x135000_1.length : Int) := od_
        obtain ⟨ad135, e135, hx135_0, hx135_1⟩ := at_T68 (Kd.R_reads' HO_135000.out).2.2 (ji7) p135 q135
        cases e135
        replace p135 := eq_true p135
        replace q135 := eq_true q135
        have p136 : 0 ≤ ((ji9) : Int) := od_
        have q136 : (ji9) < (x135000_1.length : Int) := od_
        obtain ⟨ad136, e136, hx136_0, hx136_1⟩ := at_T68 (Kd.R_reads' HO_135000.out).2.2 (ji9) p136 q136
        obtain rfl : ad135 = ad136 := (by injection e136)
        replace p136 := eq_true p136
        replace q136 := eq_true q136
        refine start_ (n := 20) (S := fun w' => cw_ w' gb134 0 (.slice (some ad135) x135000_1.length co3) ∧ w'.cell? (ad135.add (((ji7)).toNat * 2)) = some (.int .i64 ((rd_T68 x135000_1 (ji7)).f0)) ∧ w'.cell? ⟨(ad135.add (((ji7)).toNat * 2)).block, (ad135.add (((ji7)).toNat * 2)).off + 1, none⟩ = some (.int .i64 ((rd_T68 x135000_1 (ji7)).f1)) ∧ w'.cell? (ad135.add (((ji9)).toNat * 2)) = some (.int .i64 ((rd_T68 x135000_1 (ji9)).f0)) ∧ w'.cell? ⟨(ad135.add (((ji9)).toNat * 2)).block, (ad135.add (((ji9)).toNat * 2)).off + 1, none⟩ = some (.int .i64 ((rd_T68 x135000_1 (ji9)).f1))) (ds := []) (bs 20 0) (by kernel_rfl) rfl rfl ⟨bt_ BK134 0, hx135_0, hx135_1, hx136_0, hx136_1⟩ (fun hHeld => ?_); refine with_tabW impl_Heap_down.tab2 impl_Heap_down.bits2 (fun HT_ HW_ => ?_)
        generalize wr.drew = w13 at HO_135000 BK134 HK HB hx135_0 hx135_1 hx136_0 hx136_1 hHeld ⊢
        iterate 3 (refine psn_ HT_ ?_)
        refine tkn_ HT_ HW_ hHeld ?_
        iterate 4 (refine psn_ HT_ ?_)
        refine ps_ 9 17 (bm 20 767) HT_ ?_
        refine ps_ 10 18 (bm 20 1791) HT_ ?_
        refine ps_ 13 21 (bm 20 9983) HT_ ?_
        refine ps_ 15 23 (bm 20 42751) HT_ ?_
        refine tk_ 8 16 (bm 20 43007) HT_ HW_ hHeld ?_
        refine ps_ 11 19 (bm 20 45055) HT_ ?_
        refine tk_ 12 20 (bm 20 49151) HT_ HW_ hHeld ?_
        refine tk_ 14 22 (bs 20 16) HT_ HW_ hHeld ?_
        refine psn_ HT_ ?_
        refine tkn_ HT_ HW_ hHeld ?_
        refine on_ 18 (some 26) (bs 20 19) HT_ (fun K hK => ?_)
        refine goes_ Try.func68 (by kernel_rfl) rfl #[.agg #[.int .i64 ((rd_T68 x135000_1 (ji7)).f0), .int .i64 ((rd_T68 x135000_1 (ji7)).f1)], .agg #[.int .i64 ((rd_T68 x135000_1 (ji9)).f0), .int .i64 ((rd_T68 x135000_1 (ji9)).f1)]] (by rfl) rfl rfl (by (try simp only [List.map_toArray, List.map_cons, List.map_nil]); first | done | (simp only [hji7, hji9]; rfl) | rfl | (simp only [List.length_drop, List.length_take]; rfl)) ?_
        with_reducible refine (impl_Ahead.calls ((rd_T68 x135000_1 (ji7)).f0) ((rd_T68 x135000_1 (ji7)).f1) ((rd_T68 x135000_1 (ji9)).f0) ((rd_T68 x135000_1 (ji9)).f1) t137 _ A12.out).mono ?_
        rintro e w14 ⟨rfl, hb⟩
        have HS1_ := hc_ hb hHeld.2.1
        have HS2_ := hc_ hb hHeld.2.2.1
        have HS3_ := hc_ hb hHeld.2.2.2.1
        have HS4_ := hc_ hb hHeld.2.2.2.2
        refine ⟨_, rfl, ?_⟩
        have n0_ := Aside0.mk (Kd.R_below (kr_ HO_135000) hb); have n1_ := bb_ BK134 hb
        have n2_ := Aside0.mk (Kept.below (S := (fun k_ => P0_0_ k_)) (by repeat (first | (with_reducible first | exact HK.out | apply Kept.alloc | apply Kept.drewN | apply Kept.drew | refine Kept.setCell ?_ (.inr GW134.out) _) | exact HK.out)) hb)
        have n3_ := Aside0.mk (below_step (bf_ HB) hb); clear HO_135000 BK134 HK HB; have HO_135000 := n0_; have BK134 := n1_
        have HK := n2_
        have HB := n3_; clear n0_ n1_ n2_ n3_; (try clear hb); (try clear hb2); (try clear hk); (try clear hi)
        refine hK.out _ _ ⟨bt_ BK134 0, HS1_, HS2_, HS3_, HS4_⟩ (fun hHeld => ?_)
        clear hK K
        refine norm_ (a' := ?_) ?_ ?_
        rotate_left
        ·show Act.put _ (some 26) _ = _
         simp only [Act.put, ls0_, ls1_, ls2_, i64_w, i32_w]
         rfl
        refine psn_ HT_ ?_
        refine done_ (done_of HT_.out (by kernel_rfl)) ?_
        try go_wp2
        (try subst hji7)
        (try subst hji9)
        go_meet
        case rel => exact ⟨_, (t137), (by first | rfl | (simp; done) | (simp [*]; done)), H', ⟨by have := HK1.out; first | omega | exact Nat.le_refl _⟩, ⟨by (try simp only [hl135000_1]); exact kr_ HO_135000⟩, ⟨by (try simp only [hl135000_1]); exact bk_ BK134⟩, ⟨by repeat (first | (with_reducible first | exact HK.out | apply Kept.alloc | apply Kept.drewN | apply Kept.drew | refine Kept.setCell ?_ (.inr GW134.out) _) | exact HK.out)⟩, ⟨bf_ HB⟩⟩
       ·rw [if_neg c11] at H
        exact absurd H (by simp)
      ·rw [if_neg c10] at H
       exact absurd H (by simp)
     ·rw [if_neg c8] at H
      exact absurd H (by simp)
    ·rw [if_neg c6] at H
     have c6b0 : decide ((wrap64 ((wrap64 ((wrap64 (2 * x1_1)) + 1)) + 1)) < (x135000_1.length : Int)) = false := decide_eq_false c6
     have c6b0l := c6b0
     (try simp only [hl135000_1] at c6b0l)
     clear c6
     (first | rw [c6b0] | (simp only [i64_w, i32_w]; rw [c6b0]) | skip)
     have H' := Aside0.mk H
     clear H
     try go_wp2
     have n0_ := Aside0.mk (Kd.R_drew HO_135000.out); have n1_ := Aside0.mk (blk_drew BK134.out); have n2_ := Aside0.mk (Kept.drew HK.out); have n3_ := Aside0.mk (below_drew1 HB.out); clear HO_135000 BK134 HK HB; have HO_135000 := n0_; have BK134 := n1_
     have HK := n2_
     have HB := n3_; clear n0_ n1_ n2_ n3_
     refine start_ (n := 20) (S := fun w' => cw_ w' gb134 0 (.slice Ao3 x135000_1.length co3)) (ds := []) (bs 20 0) (by kernel_rfl) rfl rfl ((blk_cell BK134.out 0).trans rfl) (fun hHeld => ?_); refine with_tabW impl_Heap_down.tab2 impl_Heap_down.bits2 (fun HT_ HW_ => ?_)
     generalize wr.drew = w15 at HO_135000 BK134 HK HB hHeld ⊢
     iterate 3 (refine psn_ HT_ ?_)
     refine tkn_ HT_ HW_ hHeld ?_
     iterate 3 (refine psn_ HT_ ?_)
     iterate 12 (refine pun_ HT_ ?_)
     refine psn_ HT_ ?_
     refine done_ (done_of HT_.out (by kernel_rfl)) ?_
     try go_wp2
     go_meet
     case rel => exact ⟨_, (false), (by first | rfl | (simp; done) | (simp [*]; done)), H', ⟨by have := HK1.out; first | omega | exact Nat.le_refl _⟩, ⟨by (try simp only [hl135000_1]); exact kr_ HO_135000⟩, ⟨by (try simp only [hl135000_1]); exact bk_ BK134⟩, ⟨by repeat (first | (with_reducible first | exact HK.out | apply Kept.alloc | apply Kept.drewN | apply Kept.drew | refine Kept.setCell ?_ (.inr GW134.out) _) | exact HK.out)⟩, ⟨bf_ HB⟩⟩
   case rest =>
    clear HC5; (try clear c1); (try clear p1); (try clear q1); (try clear hx1); (try clear p2 p2); (try clear c6); (try clear c6b0); (try clear p6); (try clear c8); (try clear c8b0); (try clear c10); (try clear c10b0); (try clear c11); (try clear c11b0); (try clear p13); (try clear q13); (try clear hx13); (try clear hx135_0); (try clear hx135_1); (try clear hx136_0); (try clear hx136_1); (try clear p135); (try clear p136); (try clear q135); (try clear q136)
    obtain ⟨kq, x27_4, rfl, HA, HJ4, HO_135000, BK134, HK, HB⟩ := hcut
    cases kq with
    | zero => exact absurd HA.out (by simp [impl_Heap_down.j1])
    | succ kj4 =>
     have H := HA.out
     clear HA
     simp only [impl_Heap_down.j1] at H
     by_cases c16 : x27_4 = true
     ·subst c16
      rw [if_pos rfl] at H
      by_cases c17 : (wrap64 ((wrap64 ((wrap64 (2 * x1_1)) + 1)) + 1)) ≥ (x135000_1.length : Int)
      ·rw [if_pos c17] at H
       have c17b0 : decide ((x135000_1.length : Int) ≤ (wrap64 ((wrap64 ((wrap64 (2 * x1_1)) + 1)) + 1))) = true := decide_eq_true c17
       have c17b0l := c17b0
       (try simp only [hl135000_1] at c17b0l)
       clear c17
       obtain rfl := Option.some.inj H
       try go_wp2
       have n0_ := Aside0.mk (Kd.R_drew HO_135000.out); have n1_ := Aside0.mk (blk_drew BK134.out); have n2_ := Aside0.mk (Kept.drew HK.out); have n3_ := Aside0.mk (below_drew1 HB.out); clear HO_135000 BK134 HK HB; have HO_135000 := n0_; have BK134 := n1_
       have HK := n2_
       have HB := n3_; clear n0_ n1_ n2_ n3_
       refine start_ (n := 19) (S := fun w' => cw_ w' gb134 0 (.slice Ao3 x135000_1.length co3)) (ds := []) (bs 19 0) (by kernel_rfl) rfl rfl ((blk_cell BK134.out 0).trans rfl) (fun hHeld => ?_); refine with_tabW impl_Heap_down.tab4 impl_Heap_down.bits4 (fun HT_ HW_ => ?_)
       generalize wc.drew = w18 at HO_135000 BK134 HK HB hHeld ⊢
       iterate 2 (refine psn_ HT_ ?_)
       refine tkn_ HT_ HW_ hHeld ?_
       iterate 3 (refine psn_ HT_ ?_)
       iterate 12 (refine pun_ HT_ ?_)
       refine psn_ HT_ ?_
       refine done_ (done_of HT_.out (by kernel_rfl)) ?_
       try go_wp2
       first | go_end0 | ((try simp only [Exit.inBlock, Exit.then]); refine bodyPost_ret (results_none rfl _ _ _) rfl ?_)
       exact ⟨by first | rfl | (simp [errW_none, errW_some] <;> rfl) | (simp [*, errW_none, errW_some] <;> rfl), (by first | exact (kr_ HO_135000) | (simp only [hl135000_1]; exact (kr_ HO_135000))), by repeat (first | (with_reducible first | exact HB.out | apply below_alloc | apply pw_below_drewN | apply below_drew1 | refine below_set ?_ GE134.out) | exact HB.out), by repeat (first | (with_reducible first | exact HK.out | apply Kept.alloc | apply Kept.drewN | apply Kept.drew | refine Kept.setCell ?_ (.inr GW134.out) _) | exact HK.out)⟩
      ·rw [if_neg c17] at H
       have c17b0 : decide ((x135000_1.length : Int) ≤ (wrap64 ((wrap64 ((wrap64 (2 * x1_1)) + 1)) + 1))) = false := decide_eq_false c17
       have c17b0l := c17b0
       (try simp only [hl135000_1] at c17b0l)
       clear c17
       obtain ⟨ji19, hji19⟩ : ∃ j_ : Int, (wrap64 ((wrap64 ((wrap64 (2 * x1_1)) + 1)) + 1)) = j_ := ⟨_, rfl⟩
       replace H : (if 0 ≤ (ji19) then (if (ji19) < (x135000_1.length : Int) then (if 0 ≤ x1_1 then (if x1_1 < (x135000_1.length : Int) then ((impl_Ahead.f ((rd_T68 x135000_1 (ji19)).f0) ((rd_T68 x135000_1 (ji19)).f1) ((rd_T68 x135000_1 x1_1).f0) ((rd_T68 x135000_1 x1_1).f1)).bind fun t140 => (if t140 = true then (impl_Heap_down.l0 kj4 ji19 ((x135000_1.set (x1_1 : Int).toNat (⟨(rd_T68 x135000_1 (ji19)).f0, (rd_T68 x135000_1 (ji19)).f1⟩ : S68)).set ((ji19) : Int).toNat (⟨(rd_T68 x135000_1 x1_1).f0, (rd_T68 x135000_1 x1_1).f1⟩ : S68))) else (some x135000_1))) else (none)) else (none)) else (none)) else (none)) = some r := by first | (rw [hji19] at H; exact H) | (simp only [hji19] at H ⊢; exact H)
       (try rw [hji19] at c17b0)
       have hji19w : (IntKind.i64.wrap ((wrap64 ((wrap64 (2 * x1_1)) + 1)) + 1)) = ji19 := (i64_w _).trans hji19
       by_cases c20 : 0 ≤ (ji19)
       ·rw [if_pos c20] at H
        have c20b0 : decide (0 ≤ (ji19)) = true := decide_eq_true c20
        have c20b0l := c20b0
        (try simp only [hl135000_1] at c20b0l)
        clear c20
        by_cases c21 : (ji19) < (x135000_1.length : Int)
        ·rw [if_pos c21] at H
         have c21b0 : decide ((ji19) < (x135000_1.length : Int)) = true := decide_eq_true c21
         have c21b0l := c21b0
         (try simp only [hl135000_1] at c21b0l)
         clear c21
         by_cases c22 : 0 ≤ x1_1
         ·rw [if_pos c22] at H
          have c22b0 : decide (0 ≤ x1_1) = true := decide_eq_true c22
          have c22b0l := c22b0
          (try simp only [hl135000_1] at c22b0l)
          clear c22
          by_cases c23 : x1_1 < (x135000_1.length : Int)
          ·rw [if_pos c23] at H
           have c23b0 : decide (x1_1 < (x135000_1.length : Int)) = true := decide_eq_true c23
           have c23b0l := c23b0
           (try simp only [hl135000_1] at c23b0l)
           clear c23
           replace H := Option.bind_eq_some_iff.mp H
           obtain ⟨t140, A240, H⟩ := H
           have A24 := Aside0.mk A240
           clear A240
           by_cases c25 : t140 = true
           ·subst c25
            rw [if_pos rfl] at H
            obtain ⟨y143, hy143⟩ : ∃ y_ : List (S68), y_ = (x135000_1.set (x1_1 : Int).toNat (⟨(rd_T68 x135000_1 (ji19)).f0, (rd_T68 x135000_1 (ji19)).f1⟩ : S68)) := ⟨_, rfl⟩
            replace H : (impl_Heap_down.l0 kj4 ji19 (y143.set ((ji19) : Int).toNat (⟨(rd_T68 x135000_1 x1_1).f0, (rd_T68 x135000_1 x1_1).f1⟩ : S68))) = some r := by first | (rw [hy143]; with_reducible exact H) | (have H2_ := (Option.bind_some _ _).symm.trans H; rw [hy143]; with_reducible exact H2_) | (have H2_ := (Option.bind_some _ _).symm.trans H; with_reducible exact H2_) | with_reducible exact H | (rw [hy143]; exact H) | exact H
            have Ny143 := Aside0.mk hy143
            clear hy143
            obtain ⟨y144, hy144⟩ : ∃ y_ : List (S68), y_ = (y143.set ((ji19) : Int).toNat (⟨(rd_T68 x135000_1 x1_1).f0, (rd_T68 x135000_1 x1_1).f1⟩ : S68)) := ⟨_, rfl⟩
            replace H : (impl_Heap_down.l0 kj4 ji19 y144) = some r := by first | (rw [hy144]; with_reducible exact H) | (have H2_ := (Option.bind_some _ _).symm.trans H; rw [hy144]; with_reducible exact H2_) | (have H2_ := (Option.bind_some _ _).symm.trans H; with_reducible exact H2_) | with_reducible exact H | (rw [hy144]; exact H) | exact H
            have Ny144 := Aside0.mk hy144
            clear hy144
            have H' := Aside0.mk H
            clear H
            try go_wp2
            have n0_ := Aside0.mk (Kd.R_drew HO_135000.out); have n1_ := Aside0.mk (blk_drew BK134.out); have n2_ := Aside0.mk (Kept.drew HK.out); have n3_ := Aside0.mk (below_drew1 HB.out); clear HO_135000 BK134 HK HB; have HO_135000 := n0_; have BK134 := n1_
            have HK := n2_
            have HB := n3_; clear n0_ n1_ n2_ n3_
            have p138 : 0 ≤ ((ji19) : Int) := od_
            have q138 : (ji19) < (x135000_1.length : Int) := od_
            obtain ⟨ad138, e138, hx138_0, hx138_1⟩ := at_T68 (Kd.R_reads' HO_135000.out).2.2 (ji19) p138 q138
            cases e138
            replace p138 := eq_true p138
            replace q138 := eq_true q138
            have p139 : 0 ≤ (x1_1 : Int) := od_
            have q139 : x1_1 < (x135000_1.length : Int) := od_
            obtain ⟨ad139, e139, hx139_0, hx139_1⟩ := at_T68 (Kd.R_reads' HO_135000.out).2.2 x1_1 p139 q139
            obtain rfl : ad138 = ad139 := (by injection e139)
            replace p139 := eq_true p139
            replace q139 := eq_true q139
            refine start_ (n := 19) (S := fun w' => cw_ w' gb134 0 (.slice (some ad138) x135000_1.length co3) ∧ w'.cell? (ad138.add (((ji19)).toNat * 2)) = some (.int .i64 ((rd_T68 x135000_1 (ji19)).f0)) ∧ w'.cell? ⟨(ad138.add (((ji19)).toNat * 2)).block, (ad138.add (((ji19)).toNat * 2)).off + 1, none⟩ = some (.int .i64 ((rd_T68 x135000_1 (ji19)).f1)) ∧ w'.cell? (ad138.add ((x1_1).toNat * 2)) = some (.int .i64 ((rd_T68 x135000_1 x1_1).f0)) ∧ w'.cell? ⟨(ad138.add ((x1_1).toNat * 2)).block, (ad138.add ((x1_1).toNat * 2)).off + 1, none⟩ = some (.int .i64 ((rd_T68 x135000_1 x1_1).f1))) (ds := []) (bs 19 0) (by kernel_rfl) rfl rfl ⟨bt_ BK134 0, hx138_0, hx138_1, hx139_0, hx139_1⟩ (fun hHeld => ?_); refine with_tabW impl_Heap_down.tab4 impl_Heap_down.bits4 (fun HT_ HW_ => ?_)
            generalize wc.drew = w28 at HO_135000 BK134 HK HB hx138_0 hx138_1 hx139_0 hx139_1 hHeld ⊢
            iterate 2 (refine psn_ HT_ ?_)
            refine tkn_ HT_ HW_ hHeld ?_
            iterate 4 (refine psn_ HT_ ?_)
            refine ps_ 8 38 (bm 19 383) HT_ ?_
            refine ps_ 11 41 (bm 19 2431) HT_ ?_
            refine ps_ 13 43 (bm 19 10623) HT_ ?_
            refine tk_ 7 37 (bm 19 10751) HT_ HW_ hHeld ?_
            refine ps_ 9 39 (bm 19 11263) HT_ ?_
            refine tk_ 10 40 (bm 19 12287) HT_ HW_ hHeld ?_
            refine tk_ 12 42 (bs 19 14) HT_ HW_ hHeld ?_
            refine psn_ HT_ ?_
            refine tkn_ HT_ HW_ hHeld ?_
            refine on_ 16 (some 46) (bs 19 17) HT_ (fun K hK => ?_)
            refine goes_ Try.func68 (by kernel_rfl) rfl #[.agg #[.int .i64 ((rd_T68 x135000_1 (ji19)).f0), .int .i64 ((rd_T68 x135000_1 (ji19)).f1)], .agg #[.int .i64 ((rd_T68 x135000_1 x1_1).f0), .int .i64 ((rd_T68 x135000_1 x1_1).f1)]] (by rfl) rfl rfl (by (try simp only [List.map_toArray, List.map_cons, List.map_nil]); first | done | (simp only [hji19]; rfl) | rfl | (simp only [List.length_drop, List.length_take]; rfl)) ?_
            with_reducible refine (impl_Ahead.calls ((rd_T68 x135000_1 (ji19)).f0) ((rd_T68 x135000_1 (ji19)).f1) ((rd_T68 x135000_1 x1_1).f0) ((rd_T68 x135000_1 x1_1).f1) true _ A24.out).mono ?_
            rintro e w29 ⟨rfl, hb⟩
            have HS1_ := hc_ hb hHeld.2.1
            have HS2_ := hc_ hb hHeld.2.2.1
            have HS3_ := hc_ hb hHeld.2.2.2.1
            have HS4_ := hc_ hb hHeld.2.2.2.2
            refine ⟨_, rfl, ?_⟩
            have n0_ := Aside0.mk (Kd.R_below (kr_ HO_135000) hb); have n1_ := bb_ BK134 hb
            have n2_ := Aside0.mk (Kept.below (S := (fun k_ => P0_0_ k_)) (by repeat (first | (with_reducible first | exact HK.out | apply Kept.alloc | apply Kept.drewN | apply Kept.drew | refine Kept.setCell ?_ (.inr GW134.out) _) | exact HK.out)) hb)
            have n3_ := Aside0.mk (below_step (bf_ HB) hb); clear HO_135000 BK134 HK HB; have HO_135000 := n0_; have BK134 := n1_
            have HK := n2_
            have HB := n3_; clear n0_ n1_ n2_ n3_; (try clear hb); (try clear hb2); (try clear hk); (try clear hi)
            refine hK.out _ _ ⟨bt_ BK134 0, HS1_, HS2_, HS3_, HS4_⟩ (fun hHeld => ?_)
            clear hK K
            refine norm_ (a' := ?_) ?_ ?_
            rotate_left
            ·show Act.put _ (some 46) _ = _
             simp only [Act.put, ls0_, ls1_, ls2_, i64_w, i32_w]
             rfl
            iterate 2 (refine psn_ HT_ ?_)
            refine done_ (done_of HT_.out (by kernel_rfl)) ?_
            try go_wp2
            have n0_ := Aside0.mk (Kd.R_drew HO_135000.out); have n1_ := Aside0.mk (blk_drew BK134.out); have n2_ := Aside0.mk (Kept.drew HK.out); have n3_ := Aside0.mk (below_drew1 HB.out); clear HO_135000 BK134 HK HB; have HO_135000 := n0_; have BK134 := n1_
            have HK := n2_
            have HB := n3_; clear n0_ n1_ n2_ n3_
            have p141 : 0 ≤ ((ji19) : Int) := od_
            have q141 : (ji19) < (x135000_1.length : Int) := od_
            obtain ⟨ad141, e141, hx141_0, hx141_1⟩ := at_T68 (Kd.R_reads' HO_135000.out).2.2 (ji19) p141 q141
            obtain rfl : ad138 = ad141 := (by injection e141)
            replace p141 := eq_true p141
            replace q141 := eq_true q141
            have p142 : 0 ≤ (x1_1 : Int) := od_
            have q142 : x1_1 < (x135000_1.length : Int) := od_
            obtain ⟨ad142, e142, hx142_0, hx142_1⟩ := at_T68 (Kd.R_reads' HO_135000.out).2.2 x1_1 p142 q142
            obtain rfl : ad138 = ad142 := (by injection e142)
            replace p142 := eq_true p142
            replace q142 := eq_true q142
            have p26 : 0 ≤ (x1_1 : Int) := od_
            have q26 : (x1_1 : Int) < ((x135000_1.length : Int) : Int) := od_
            obtain ⟨go26, co26, eo26, gb26, gl26, cl26, HG26⟩ := Kd.R_form HO_135000.out (by omega)
            (first | cases eo26 | (injection eo26 with ea_ en_ ec_; (first | subst ea_ | (injection ea_ with ea_; subst ea_)); subst ec_; clear en_))
            have GB26 := Aside0.mk gb26
            have GG26 := Aside0.mk HG26
            clear gb26 gl26 HG26
            have HMgo26 := Aside0.mk (show (P0_0_ go26 ∨ w.heap.size ≤ go26) from (HO_135000.out.1 _ rfl))
            (first | simp only [add_plain] at hx138_0 | skip)
            (first | simp only [add_plain] at hx138_1 | skip)
            (first | simp only [add_plain] at hx139_0 | skip)
            (first | simp only [add_plain] at hx139_1 | skip)
            (first | simp only [add_plain] at hx141_0 | skip)
            (first | simp only [add_plain] at hx141_1 | skip)
            (first | simp only [add_plain] at hx142_0 | skip)
            (first | simp only [add_plain] at hx142_1 | skip)
            obtain ⟨ce26, hcl26, hM26, hcc26, hfr26⟩ := Kd.R_elem HO_135000.out z68 (x1_1 : Int) p26 q26
            obtain rfl := k68_openM hM26
            have hx26_0 : World.cell? _ ⟨go26, (x1_1 : Int).toNat * 2, none⟩ = some (.int .i64 ((rd_T68 x135000_1 x1_1).f0)) := hcc26 0 _ rfl
            have hx26_1 : World.cell? _ ⟨go26, (x1_1 : Int).toNat * 2 + 1, none⟩ = some (.int .i64 ((rd_T68 x135000_1 x1_1).f1)) := hcc26 1 _ rfl
            have hf26_0 : World.frozen? _ ⟨go26, (x1_1 : Int).toNat * 2, none⟩ = false := hfr26 0
            have hf26_1 : World.frozen? _ ⟨go26, (x1_1 : Int).toNat * 2 + 1, none⟩ = false := hfr26 1
            clear hcl26 hcc26 hfr26 hM26
            replace p26 := eq_true p26
            replace q26 := eq_true q26
            obtain ⟨ce31, hcl31, hM31, hcc31, hfr31⟩ := Kd.R_elem HO_135000.out z68 (x1_1 : Int) (od_) (by have h_ : (x1_1 : Int) < ((x135000_1.length : Int) : Int) := od_; first | exact h_ | (have e_ := (Kd.R_reads' HO_135000.out).1; omega) | simpa using h_)
            obtain rfl := k68_openM hM31
            have HP31 := (Kd.R_seg HO_135000.out (x1_1 : Int) (od_) (by have h_ : (x1_1 : Int) < ((x135000_1.length : Int) : Int) := od_; first | exact h_ | (have e_ := (Kd.R_reads' HO_135000.out).1; omega) | simpa using h_) (seg := [.int .i64 ((rd_T68 x135000_1 (ji19)).f0), .int .i64 ((rd_T68 x135000_1 (ji19)).f1)]) (j := 0) hcl31 hcc31 (show 2 ≤ 2 from by decide) (x' := (⟨(rd_T68 x135000_1 (ji19)).f0, (rd_T68 x135000_1 (ji19)).f1⟩ : S68)) (k68_mkM _ _ _ (⟨(rd_T68 x135000_1 (ji19)).f0, (rd_T68 x135000_1 (ji19)).f1⟩ : S68) ) (fun _ hk => by first | exact hk | grind)).1
            rw [← Ny143.out] at HP31
            have HQ31 := Aside0.mk HP31
            clear hcl31 hcc31 hfr31 hM31 HP31
            have p27 : 0 ≤ ((ji19) : Int) := od_
            have q27 : ((ji19) : Int) < ((x135000_1.length : Int) : Int) := od_
            obtain ⟨ce27, hcl27, hM27, hcc27, hfr27⟩ := Kd.R_elem HQ31.out z68 ((ji19) : Int) p27 q27
            obtain rfl := k68_openM hM27
            have hx27_0 : World.cell? _ ⟨go26, ((ji19) : Int).toNat * 2, none⟩ = some (.int .i64 ((rd_T68 y143 (ji19)).f0)) := hcc27 0 _ rfl
            change World.cell? (World.setCell (World.setCell _ ⟨go26, (x1_1 : Int).toNat * 2, none⟩ (.int .i64 ((rd_T68 x135000_1 (ji19)).f0))) ⟨go26, (x1_1 : Int).toNat * 2 + 1, none⟩ (.int .i64 ((rd_T68 x135000_1 (ji19)).f1))) _ = _ at hx27_0
            have hx27_1 : World.cell? _ ⟨go26, ((ji19) : Int).toNat * 2 + 1, none⟩ = some (.int .i64 ((rd_T68 y143 (ji19)).f1)) := hcc27 1 _ rfl
            change World.cell? (World.setCell (World.setCell _ ⟨go26, (x1_1 : Int).toNat * 2, none⟩ (.int .i64 ((rd_T68 x135000_1 (ji19)).f0))) ⟨go26, (x1_1 : Int).toNat * 2 + 1, none⟩ (.int .i64 ((rd_T68 x135000_1 (ji19)).f1))) _ = _ at hx27_1
            have hf27_0 : World.frozen? _ ⟨go26, ((ji19) : Int).toNat * 2, none⟩ = false := hfr27 0
            change World.frozen? (World.setCell (World.setCell _ ⟨go26, (x1_1 : Int).toNat * 2, none⟩ (.int .i64 ((rd_T68 x135000_1 (ji19)).f0))) ⟨go26, (x1_1 : Int).toNat * 2 + 1, none⟩ (.int .i64 ((rd_T68 x135000_1 (ji19)).f1))) _ = _ at hf27_0
            have hf27_1 : World.frozen? _ ⟨go26, ((ji19) : Int).toNat * 2 + 1, none⟩ = false := hfr27 1
            change World.frozen? (World.setCell (World.setCell _ ⟨go26, (x1_1 : Int).toNat * 2, none⟩ (.int .i64 ((rd_T68 x135000_1 (ji19)).f0))) ⟨go26, (x1_1 : Int).toNat * 2 + 1, none⟩ (.int .i64 ((rd_T68 x135000_1 (ji19)).f1))) _ = _ at hf27_1
            clear hcl27 hcc27 hfr27 hM27
            replace p27 := eq_true p27
            replace q27 := eq_true q27
            obtain ⟨ce32, hcl32, hM32, hcc32, hfr32⟩ := Kd.R_elem HQ31.out z68 ((ji19) : Int) (od_) (by have h_ : ((ji19) : Int) < ((x135000_1.length : Int) : Int) := od_; first | exact h_ | (have e_ := (Kd.R_reads' HO_135000.out).1; omega) | simpa using h_)
            obtain rfl := k68_openM hM32
            have HP32 := (Kd.R_seg HQ31.out ((ji19) : Int) (od_) (by have h_ : ((ji19) : Int) < ((x135000_1.length : Int) : Int) := od_; first | exact h_ | (have e_ := (Kd.R_reads' HO_135000.out).1; omega) | simpa using h_) (seg := [.int .i64 ((rd_T68 x135000_1 x1_1).f0), .int .i64 ((rd_T68 x135000_1 x1_1).f1)]) (j := 0) hcl32 hcc32 (show 2 ≤ 2 from by decide) (x' := (⟨(rd_T68 x135000_1 x1_1).f0, (rd_T68 x135000_1 x1_1).f1⟩ : S68)) (k68_mkM _ _ _ (⟨(rd_T68 x135000_1 x1_1).f0, (rd_T68 x135000_1 x1_1).f1⟩ : S68) ) (fun _ hk => by first | exact hk | grind)).1
            rw [← Ny144.out] at HP32
            have HQ32 := Aside0.mk HP32
            clear hcl32 hcc32 hfr32 hM32 HP32
            refine start_ (n := 20) (S := fun w' => cw_ w' gb134 0 (.slice (some ⟨go26, 0, none⟩) x135000_1.length co3) ∧ w'.cell? ⟨go26, (((ji19)).toNat * 2), none⟩ = some (.int .i64 ((rd_T68 x135000_1 (ji19)).f0)) ∧ w'.cell? ⟨go26, (((ji19)).toNat * 2) + 1, none⟩ = some (.int .i64 ((rd_T68 x135000_1 (ji19)).f1)) ∧ w'.cell? ⟨go26, ((x1_1).toNat * 2), none⟩ = some (.int .i64 ((rd_T68 x135000_1 x1_1).f0)) ∧ w'.cell? ⟨go26, ((x1_1).toNat * 2) + 1, none⟩ = some (.int .i64 ((rd_T68 x135000_1 x1_1).f1))) (ds := [17, 19]) (bs 20 0) (by kernel_rfl) rfl rfl ⟨bt_ BK134 0, hx141_0, hx141_1, hx142_0, hx142_1⟩ (fun hHeld => ?_); refine with_tabW impl_Heap_down.tab5 impl_Heap_down.bits5 (fun HT_ HW_ => ?_)
            generalize w29.drew = w30 at HO_135000 BK134 HK HB GG26 HQ31 HQ32 hf26_0 hf26_1 hf27_0 hf27_1 hx138_0 hx138_1 hx139_0 hx139_1 hx141_0 hx141_1 hx142_0 hx142_1 hx26_0 hx26_1 hx27_0 hx27_1 hHeld ⊢
            refine psn_ HT_ ?_
            refine ps_ 2 51 (bm 20 5) HT_ ?_
            refine ps_ 3 52 (bm 20 13) HT_ ?_
            refine ps_ 5 54 (bm 20 45) HT_ ?_
            refine ps_ 6 55 (bm 20 109) HT_ ?_
            refine ps_ 8 57 (bm 20 365) HT_ ?_
            refine ps_ 11 60 (bm 20 2413) HT_ ?_
            refine ps_ 13 62 (bm 20 10605) HT_ ?_
            refine tk_ 1 50 (bm 20 10607) HT_ HW_ hHeld ?_
            refine tk_ 7 56 (bm 20 10735) HT_ HW_ hHeld ?_
            refine ps_ 9 58 (bm 20 11247) HT_ ?_
            refine tk_ 10 59 (bm 20 12271) HT_ HW_ hHeld ?_
            refine tk_ 12 61 (bm 20 16367) HT_ HW_ hHeld ?_
            refine ps_ 14 63 (bm 20 32751) HT_ ?_
            refine tk_ 15 64 (bm 20 65519) HT_ HW_ hHeld ?_
            refine ps_ 16 65 (bm 20 131055) HT_ ?_
            refine late_ (i := 4) (j := 17) (N := 53) (v := ?lv_2) (w1 := ?lw_2) (a' := ?la_2) (bs 20 17) (bm 20 262127) rfl rfl rfl rfl (by kernel_rfl) (by decide) ?h1_2 ?h2_2 ?h3_2 ?ha_2 rfl ?hp_2 ?hx_2 ?hwi_2 ?hwj_2 ?hwk_2 ?_
            (case h1_2 => obtain ⟨s0, s1, s2, s3, s4⟩ := hHeld; go_simp <;> (first | rfl | (constructor <;> rfl) | (refine ⟨?_, ?_⟩ <;> rfl)))
            (case h2_2 => go_simp; rfl)
            (case h3_2 => obtain ⟨s0, s1, s2, s3, s4⟩ := hHeld; have hb_ : go26 ≠ gb134 := fun e_ => (Kd.R_ne HO_135000.out BK134.out (by decide)) (by rw [e_]; rfl); have hb2_ := hb_.symm; go_simp <;> (first | rfl | (constructor <;> rfl) | (refine ⟨?_, ?_⟩ <;> rfl)))
            (case ha_2 => simp only [Act.put, ls0_, ls1_, ls2_, i64_w, i32_w]; rfl)
            (case hp_2 => rfl)
            (case hx_2 => rfl)
            (case hwi_2 => rfl)
            (case hwj_2 => rfl)
            (case hwk_2 => rfl)
            refine last_ (i := 17) (N := none) (bs 20 18) rfl rfl (one_of HT_.out (by kernel_rfl)) (by decide) (fun K hK => ?_)
            refine skip_ (w1 := ?_) (by rfl) rfl ?_ ?_
            rotate_left
            ·go_simp
             rfl
            refine hK.out _ _ ?_
            clear hK K
            refine ps_ 18 66 (bs 20 19) HT_ ?_
            refine last_ (i := 19) (N := none) (bs 20 20) rfl rfl (one_of HT_.out (by kernel_rfl)) (by decide) (fun K hK => ?_)
            refine skip_ (w1 := ?_) (by rfl) rfl ?_ ?_
            rotate_left
            ·go_simp
             rfl
            refine hK.out _ _ ?_
            clear hK K
            refine done_ (done_of HT_.out (by kernel_rfl)) ?_
            try go_wp2
            (try simp only [← hl135000_1])
            go_roundg kj4
            case measure => have := HK1.out; have := HJ4.out; omega
            case rel => exact ⟨(ji19), (y144), (by first | rfl | (simp; done) | (simp only [← hji19] <;> (first | rfl | simp)) | (simp [*]; done)), H', ⟨by have := HK1.out; have := HJ4.out; omega⟩, ⟨by (try simp only [hl135000_1]); exact kr_ HQ32⟩, ⟨by (try simp only [hl135000_1]); (with_reducible repeat (first | refine blk_drewN ?_ _ | refine blk_drew ?_ | refine blk_alloc ?_ _)); refine blk_far ?_ (by have h_ := Kd.R_ne HO_135000.out BK134.out (by decide); intro e_; exact h_ (by rw [e_]; rfl)) _; (with_reducible repeat (first | refine blk_drewN ?_ _ | refine blk_drew ?_ | refine blk_alloc ?_ _)); refine blk_far ?_ (by have h_ := Kd.R_ne HO_135000.out BK134.out (by decide); intro e_; exact h_ (by rw [e_]; rfl)) _; (with_reducible repeat (first | refine blk_drewN ?_ _ | refine blk_drew ?_ | refine blk_alloc ?_ _)); refine blk_far ?_ (by have h_ := Kd.R_ne HO_135000.out BK134.out (by decide); intro e_; exact h_ (by rw [e_]; rfl)) _; (with_reducible repeat (first | refine blk_drewN ?_ _ | refine blk_drew ?_ | refine blk_alloc ?_ _)); refine blk_far ?_ (by have h_ := Kd.R_ne HO_135000.out BK134.out (by decide); intro e_; exact h_ (by rw [e_]; rfl)) _; exact bk_ BK134⟩, ⟨by repeat (first | (with_reducible first | exact HK.out | apply Kept.alloc | apply Kept.drewN | apply Kept.drew | refine Kept.setCell ?_ HMgo26.out _ | refine Kept.setCell ?_ HMgo26.out _ | refine Kept.setCell ?_ HMgo26.out _ | refine Kept.setCell ?_ HMgo26.out _ | refine Kept.setCell ?_ (.inr GW134.out) _) | exact HK.out)⟩, ⟨by repeat (first | (with_reducible first | exact HB.out | apply below_alloc | apply pw_below_drewN | apply below_drew1 | refine below_set ?_ GB26.out | refine below_set ?_ GB26.out | refine below_set ?_ GB26.out | refine below_set ?_ GB26.out | refine below_set ?_ GE134.out) | exact HB.out)⟩⟩
           ·replace c25 := Bool.eq_false_iff.mpr c25
            subst c25
            rw [if_neg (show ¬ (false = true) by decide)] at H
            obtain rfl := Option.some.inj H
            try go_wp2
            have n0_ := Aside0.mk (Kd.R_drew HO_135000.out); have n1_ := Aside0.mk (blk_drew BK134.out); have n2_ := Aside0.mk (Kept.drew HK.out); have n3_ := Aside0.mk (below_drew1 HB.out); clear HO_135000 BK134 HK HB; have HO_135000 := n0_; have BK134 := n1_
            have HK := n2_
            have HB := n3_; clear n0_ n1_ n2_ n3_
            have p138 : 0 ≤ ((ji19) : Int) := od_
            have q138 : (ji19) < (x135000_1.length : Int) := od_
            obtain ⟨ad138, e138, hx138_0, hx138_1⟩ := at_T68 (Kd.R_reads' HO_135000.out).2.2 (ji19) p138 q138
            cases e138
            replace p138 := eq_true p138
            replace q138 := eq_true q138
            have p139 : 0 ≤ (x1_1 : Int) := od_
            have q139 : x1_1 < (x135000_1.length : Int) := od_
            obtain ⟨ad139, e139, hx139_0, hx139_1⟩ := at_T68 (Kd.R_reads' HO_135000.out).2.2 x1_1 p139 q139
            obtain rfl : ad138 = ad139 := (by injection e139)
            replace p139 := eq_true p139
            replace q139 := eq_true q139
            refine start_ (n := 19) (S := fun w' => cw_ w' gb134 0 (.slice (some ad138) x135000_1.length co3) ∧ w'.cell? (ad138.add (((ji19)).toNat * 2)) = some (.int .i64 ((rd_T68 x135000_1 (ji19)).f0)) ∧ w'.cell? ⟨(ad138.add (((ji19)).toNat * 2)).block, (ad138.add (((ji19)).toNat * 2)).off + 1, none⟩ = some (.int .i64 ((rd_T68 x135000_1 (ji19)).f1)) ∧ w'.cell? (ad138.add ((x1_1).toNat * 2)) = some (.int .i64 ((rd_T68 x135000_1 x1_1).f0)) ∧ w'.cell? ⟨(ad138.add ((x1_1).toNat * 2)).block, (ad138.add ((x1_1).toNat * 2)).off + 1, none⟩ = some (.int .i64 ((rd_T68 x135000_1 x1_1).f1))) (ds := []) (bs 19 0) (by kernel_rfl) rfl rfl ⟨bt_ BK134 0, hx138_0, hx138_1, hx139_0, hx139_1⟩ (fun hHeld => ?_); refine with_tabW impl_Heap_down.tab4 impl_Heap_down.bits4 (fun HT_ HW_ => ?_)
            generalize wc.drew = w33 at HO_135000 BK134 HK HB hx138_0 hx138_1 hx139_0 hx139_1 hHeld ⊢
            iterate 2 (refine psn_ HT_ ?_)
            refine tkn_ HT_ HW_ hHeld ?_
            iterate 4 (refine psn_ HT_ ?_)
            refine ps_ 8 38 (bm 19 383) HT_ ?_
            refine ps_ 11 41 (bm 19 2431) HT_ ?_
            refine ps_ 13 43 (bm 19 10623) HT_ ?_
            refine tk_ 7 37 (bm 19 10751) HT_ HW_ hHeld ?_
            refine ps_ 9 39 (bm 19 11263) HT_ ?_
            refine tk_ 10 40 (bm 19 12287) HT_ HW_ hHeld ?_
            refine tk_ 12 42 (bs 19 14) HT_ HW_ hHeld ?_
            refine psn_ HT_ ?_
            refine tkn_ HT_ HW_ hHeld ?_
            refine on_ 16 (some 46) (bs 19 17) HT_ (fun K hK => ?_)
            refine goes_ Try.func68 (by kernel_rfl) rfl #[.agg #[.int .i64 ((rd_T68 x135000_1 (ji19)).f0), .int .i64 ((rd_T68 x135000_1 (ji19)).f1)], .agg #[.int .i64 ((rd_T68 x135000_1 x1_1).f0), .int .i64 ((rd_T68 x135000_1 x1_1).f1)]] (by rfl) rfl rfl (by (try simp only [List.map_toArray, List.map_cons, List.map_nil]); first | done | (simp only [hji19]; rfl) | rfl | (simp only [List.length_drop, List.length_take]; rfl)) ?_
            with_reducible refine (impl_Ahead.calls ((rd_T68 x135000_1 (ji19)).f0) ((rd_T68 x135000_1 (ji19)).f1) ((rd_T68 x135000_1 x1_1).f0) ((rd_T68 x135000_1 x1_1).f1) false _ A24.out).mono ?_
            rintro e w34 ⟨rfl, hb⟩
            have HS1_ := hc_ hb hHeld.2.1
            have HS2_ := hc_ hb hHeld.2.2.1
            have HS3_ := hc_ hb hHeld.2.2.2.1
            have HS4_ := hc_ hb hHeld.2.2.2.2
            refine ⟨_, rfl, ?_⟩
            have n0_ := Aside0.mk (Kd.R_below (kr_ HO_135000) hb); have n1_ := bb_ BK134 hb
            have n2_ := Aside0.mk (Kept.below (S := (fun k_ => P0_0_ k_)) (by repeat (first | (with_reducible first | exact HK.out | apply Kept.alloc | apply Kept.drewN | apply Kept.drew | refine Kept.setCell ?_ (.inr GW134.out) _) | exact HK.out)) hb)
            have n3_ := Aside0.mk (below_step (bf_ HB) hb); clear HO_135000 BK134 HK HB; have HO_135000 := n0_; have BK134 := n1_
            have HK := n2_
            have HB := n3_; clear n0_ n1_ n2_ n3_; (try clear hb); (try clear hb2); (try clear hk); (try clear hi)
            refine hK.out _ _ ⟨bt_ BK134 0, HS1_, HS2_, HS3_, HS4_⟩ (fun hHeld => ?_)
            clear hK K
            refine norm_ (a' := ?_) ?_ ?_
            rotate_left
            ·show Act.put _ (some 46) _ = _
             simp only [Act.put, ls0_, ls1_, ls2_, i64_w, i32_w]
             rfl
            iterate 2 (refine psn_ HT_ ?_)
            refine done_ (done_of HT_.out (by kernel_rfl)) ?_
            try go_wp2
            first | go_end0 | ((try simp only [Exit.inBlock, Exit.then]); refine bodyPost_ret (results_none rfl _ _ _) rfl ?_)
            exact ⟨by first | rfl | (simp [errW_none, errW_some] <;> rfl) | (simp only [← hji19]; first | rfl | (simp [errW_none, errW_some] <;> rfl)) | (simp [*, errW_none, errW_some] <;> rfl), (by first | exact (kr_ HO_135000) | (simp only [hl135000_1]; exact (kr_ HO_135000))), by repeat (first | (with_reducible first | exact HB.out | apply below_alloc | apply pw_below_drewN | apply below_drew1 | refine below_set ?_ GE134.out) | exact HB.out), by repeat (first | (with_reducible first | exact HK.out | apply Kept.alloc | apply Kept.drewN | apply Kept.drew | refine Kept.setCell ?_ (.inr GW134.out) _) | exact HK.out)⟩
          ·rw [if_neg c23] at H
           exact absurd H (by simp)
         ·rw [if_neg c22] at H
          exact absurd H (by simp)
        ·rw [if_neg c21] at H
         exact absurd H (by simp)
       ·rw [if_neg c20] at H
        exact absurd H (by simp)
     ·replace c16 := Bool.eq_false_iff.mpr c16
      subst c16
      rw [if_neg (show ¬ (false = true) by decide)] at H
      by_cases c35 : (wrap64 ((wrap64 (2 * x1_1)) + 1)) ≥ (x135000_1.length : Int)
      ·rw [if_pos c35] at H
       have c35b0 : decide ((x135000_1.length : Int) ≤ (wrap64 ((wrap64 (2 * x1_1)) + 1))) = true := decide_eq_true c35
       have c35b0l := c35b0
       (try simp only [hl135000_1] at c35b0l)
       clear c35
       obtain rfl := Option.some.inj H
       try go_wp2
       have n0_ := Aside0.mk (Kd.R_drew HO_135000.out); have n1_ := Aside0.mk (blk_drew BK134.out); have n2_ := Aside0.mk (Kept.drew HK.out); have n3_ := Aside0.mk (below_drew1 HB.out); clear HO_135000 BK134 HK HB; have HO_135000 := n0_; have BK134 := n1_
       have HK := n2_
       have HB := n3_; clear n0_ n1_ n2_ n3_
       refine start_ (n := 19) (S := fun w' => cw_ w' gb134 0 (.slice Ao3 x135000_1.length co3)) (ds := []) (bs 19 0) (by kernel_rfl) rfl rfl ((blk_cell BK134.out 0).trans rfl) (fun hHeld => ?_); refine with_tabW impl_Heap_down.tab4 impl_Heap_down.bits4 (fun HT_ HW_ => ?_)
       generalize wc.drew = w36 at HO_135000 BK134 HK HB hHeld ⊢
       iterate 2 (refine psn_ HT_ ?_)
       refine tkn_ HT_ HW_ hHeld ?_
       iterate 3 (refine psn_ HT_ ?_)
       iterate 12 (refine pun_ HT_ ?_)
       refine psn_ HT_ ?_
       refine done_ (done_of HT_.out (by kernel_rfl)) ?_
       try go_wp2
       first | go_end0 | ((try simp only [Exit.inBlock, Exit.then]); refine bodyPost_ret (results_none rfl _ _ _) rfl ?_)
       exact ⟨by first | rfl | (simp [errW_none, errW_some] <;> rfl) | (simp [*, errW_none, errW_some] <;> rfl), (by first | exact (kr_ HO_135000) | (simp only [hl135000_1]; exact (kr_ HO_135000))), by repeat (first | (with_reducible first | exact HB.out | apply below_alloc | apply pw_below_drewN | apply below_drew1 | refine below_set ?_ GE134.out) | exact HB.out), by repeat (first | (with_reducible first | exact HK.out | apply Kept.alloc | apply Kept.drewN | apply Kept.drew | refine Kept.setCell ?_ (.inr GW134.out) _) | exact HK.out)⟩
      ·rw [if_neg c35] at H
       have c35b0 : decide ((x135000_1.length : Int) ≤ (wrap64 ((wrap64 (2 * x1_1)) + 1))) = false := decide_eq_false c35
       have c35b0l := c35b0
       (try simp only [hl135000_1] at c35b0l)
       clear c35
       obtain ⟨ji37, hji37⟩ : ∃ j_ : Int, (wrap64 ((wrap64 (2 * x1_1)) + 1)) = j_ := ⟨_, rfl⟩
       replace H : (if 0 ≤ (ji37) then (if (ji37) < (x135000_1.length : Int) then (if 0 ≤ x1_1 then (if x1_1 < (x135000_1.length : Int) then ((impl_Ahead.f ((rd_T68 x135000_1 (ji37)).f0) ((rd_T68 x135000_1 (ji37)).f1) ((rd_T68 x135000_1 x1_1).f0) ((rd_T68 x135000_1 x1_1).f1)).bind fun t147 => (if t147 = true then (impl_Heap_down.l0 kj4 (ji37) ((x135000_1.set (x1_1 : Int).toNat (⟨(rd_T68 x135000_1 (ji37)).f0, (rd_T68 x135000_1 (ji37)).f1⟩ : S68)).set ((ji37) : Int).toNat (⟨(rd_T68 x135000_1 x1_1).f0, (rd_T68 x135000_1 x1_1).f1⟩ : S68))) else (some x135000_1))) else (none)) else (none)) else (none)) else (none)) = some r := by first | (rw [hji37] at H; exact H) | (simp only [hji37] at H ⊢; exact H)
       (try rw [hji37] at c35b0)
       have hji37w : (IntKind.i64.wrap ((wrap64 (2 * x1_1)) + 1)) = ji37 := (i64_w _).trans hji37
       by_cases c38 : 0 ≤ (ji37)
       ·rw [if_pos c38] at H
        have c38b0 : decide (0 ≤ (ji37)) = true := decide_eq_true c38
        have c38b0l := c38b0
        (try simp only [hl135000_1] at c38b0l)
        clear c38
        by_cases c39 : (ji37) < (x135000_1.length : Int)
        ·rw [if_pos c39] at H
         have c39b0 : decide ((ji37) < (x135000_1.length : Int)) = true := decide_eq_true c39
         have c39b0l := c39b0
         (try simp only [hl135000_1] at c39b0l)
         clear c39
         by_cases c40 : 0 ≤ x1_1
         ·rw [if_pos c40] at H
          have c40b0 : decide (0 ≤ x1_1) = true := decide_eq_true c40
          have c40b0l := c40b0
          (try simp only [hl135000_1] at c40b0l)
          clear c40
          by_cases c41 : x1_1 < (x135000_1.length : Int)
          ·rw [if_pos c41] at H
           have c41b0 : decide (x1_1 < (x135000_1.length : Int)) = true := decide_eq_true c41
           have c41b0l := c41b0
           (try simp only [hl135000_1] at c41b0l)
           clear c41
           replace H := Option.bind_eq_some_iff.mp H
           obtain ⟨t147, A420, H⟩ := H
           have A42 := Aside0.mk A420
           clear A420
           by_cases c43 : t147 = true
           ·subst c43
            rw [if_pos rfl] at H
            obtain ⟨y150, hy150⟩ : ∃ y_ : List (S68), y_ = (x135000_1.set (x1_1 : Int).toNat (⟨(rd_T68 x135000_1 (ji37)).f0, (rd_T68 x135000_1 (ji37)).f1⟩ : S68)) := ⟨_, rfl⟩
            replace H : (impl_Heap_down.l0 kj4 (ji37) (y150.set ((ji37) : Int).toNat (⟨(rd_T68 x135000_1 x1_1).f0, (rd_T68 x135000_1 x1_1).f1⟩ : S68))) = some r := by first | (rw [hy150]; with_reducible exact H) | (have H2_ := (Option.bind_some _ _).symm.trans H; rw [hy150]; with_reducible exact H2_) | (have H2_ := (Option.bind_some _ _).symm.trans H; with_reducible exact H2_) | with_reducible exact H | (rw [hy150]; exact H) | exact H
            have Ny150 := Aside0.mk hy150
            clear hy150
            obtain ⟨y151, hy151⟩ : ∃ y_ : List (S68), y_ = (y150.set ((ji37) : Int).toNat (⟨(rd_T68 x135000_1 x1_1).f0, (rd_T68 x135000_1 x1_1).f1⟩ : S68)) := ⟨_, rfl⟩
            replace H : (impl_Heap_down.l0 kj4 (ji37) y151) = some r := by first | (rw [hy151]; with_reducible exact H) | (have H2_ := (Option.bind_some _ _).symm.trans H; rw [hy151]; with_reducible exact H2_) | (have H2_ := (Option.bind_some _ _).symm.trans H; with_reducible exact H2_) | with_reducible exact H | (rw [hy151]; exact H) | exact H
            have Ny151 := Aside0.mk hy151
            clear hy151
            have H' := Aside0.mk H
            clear H
            try go_wp2
            have n0_ := Aside0.mk (Kd.R_drew HO_135000.out); have n1_ := Aside0.mk (blk_drew BK134.out); have n2_ := Aside0.mk (Kept.drew HK.out); have n3_ := Aside0.mk (below_drew1 HB.out); clear HO_135000 BK134 HK HB; have HO_135000 := n0_; have BK134 := n1_
            have HK := n2_
            have HB := n3_; clear n0_ n1_ n2_ n3_
            have p145 : 0 ≤ ((ji37) : Int) := od_
            have q145 : (ji37) < (x135000_1.length : Int) := od_
            obtain ⟨ad145, e145, hx145_0, hx145_1⟩ := at_T68 (Kd.R_reads' HO_135000.out).2.2 (ji37) p145 q145
            cases e145
            replace p145 := eq_true p145
            replace q145 := eq_true q145
            have p146 : 0 ≤ (x1_1 : Int) := od_
            have q146 : x1_1 < (x135000_1.length : Int) := od_
            obtain ⟨ad146, e146, hx146_0, hx146_1⟩ := at_T68 (Kd.R_reads' HO_135000.out).2.2 x1_1 p146 q146
            obtain rfl : ad145 = ad146 := (by injection e146)
            replace p146 := eq_true p146
            replace q146 := eq_true q146
            refine start_ (n := 19) (S := fun w' => cw_ w' gb134 0 (.slice (some ad145) x135000_1.length co3) ∧ w'.cell? (ad145.add (((ji37)).toNat * 2)) = some (.int .i64 ((rd_T68 x135000_1 (ji37)).f0)) ∧ w'.cell? ⟨(ad145.add (((ji37)).toNat * 2)).block, (ad145.add (((ji37)).toNat * 2)).off + 1, none⟩ = some (.int .i64 ((rd_T68 x135000_1 (ji37)).f1)) ∧ w'.cell? (ad145.add ((x1_1).toNat * 2)) = some (.int .i64 ((rd_T68 x135000_1 x1_1).f0)) ∧ w'.cell? ⟨(ad145.add ((x1_1).toNat * 2)).block, (ad145.add ((x1_1).toNat * 2)).off + 1, none⟩ = some (.int .i64 ((rd_T68 x135000_1 x1_1).f1))) (ds := []) (bs 19 0) (by kernel_rfl) rfl rfl ⟨bt_ BK134 0, hx145_0, hx145_1, hx146_0, hx146_1⟩ (fun hHeld => ?_); refine with_tabW impl_Heap_down.tab4 impl_Heap_down.bits4 (fun HT_ HW_ => ?_)
            generalize wc.drew = w46 at HO_135000 BK134 HK HB hx145_0 hx145_1 hx146_0 hx146_1 hHeld ⊢
            iterate 2 (refine psn_ HT_ ?_)
            refine tkn_ HT_ HW_ hHeld ?_
            iterate 4 (refine psn_ HT_ ?_)
            refine ps_ 8 38 (bm 19 383) HT_ ?_
            refine ps_ 11 41 (bm 19 2431) HT_ ?_
            refine ps_ 13 43 (bm 19 10623) HT_ ?_
            refine tk_ 7 37 (bm 19 10751) HT_ HW_ hHeld ?_
            refine ps_ 9 39 (bm 19 11263) HT_ ?_
            refine tk_ 10 40 (bm 19 12287) HT_ HW_ hHeld ?_
            refine tk_ 12 42 (bs 19 14) HT_ HW_ hHeld ?_
            refine psn_ HT_ ?_
            refine tkn_ HT_ HW_ hHeld ?_
            refine on_ 16 (some 46) (bs 19 17) HT_ (fun K hK => ?_)
            refine goes_ Try.func68 (by kernel_rfl) rfl #[.agg #[.int .i64 ((rd_T68 x135000_1 (ji37)).f0), .int .i64 ((rd_T68 x135000_1 (ji37)).f1)], .agg #[.int .i64 ((rd_T68 x135000_1 x1_1).f0), .int .i64 ((rd_T68 x135000_1 x1_1).f1)]] (by rfl) rfl rfl (by (try simp only [List.map_toArray, List.map_cons, List.map_nil]); first | done | (simp only [hji37]; rfl) | rfl | (simp only [List.length_drop, List.length_take]; rfl)) ?_
            with_reducible refine (impl_Ahead.calls ((rd_T68 x135000_1 (ji37)).f0) ((rd_T68 x135000_1 (ji37)).f1) ((rd_T68 x135000_1 x1_1).f0) ((rd_T68 x135000_1 x1_1).f1) true _ A42.out).mono ?_
            rintro e w47 ⟨rfl, hb⟩
            have HS1_ := hc_ hb hHeld.2.1
            have HS2_ := hc_ hb hHeld.2.2.1
            have HS3_ := hc_ hb hHeld.2.2.2.1
            have HS4_ := hc_ hb hHeld.2.2.2.2
            refine ⟨_, rfl, ?_⟩
            have n0_ := Aside0.mk (Kd.R_below (kr_ HO_135000) hb); have n1_ := bb_ BK134 hb
            have n2_ := Aside0.mk (Kept.below (S := (fun k_ => P0_0_ k_)) (by repeat (first | (with_reducible first | exact HK.out | apply Kept.alloc | apply Kept.drewN | apply Kept.drew | refine Kept.setCell ?_ (.inr GW134.out) _) | exact HK.out)) hb)
            have n3_ := Aside0.mk (below_step (bf_ HB) hb); clear HO_135000 BK134 HK HB; have HO_135000 := n0_; have BK134 := n1_
            have HK := n2_
            have HB := n3_; clear n0_ n1_ n2_ n3_; (try clear hb); (try clear hb2); (try clear hk); (try clear hi)
            refine hK.out _ _ ⟨bt_ BK134 0, HS1_, HS2_, HS3_, HS4_⟩ (fun hHeld => ?_)
            clear hK K
            refine norm_ (a' := ?_) ?_ ?_
            rotate_left
            ·show Act.put _ (some 46) _ = _
             simp only [Act.put, ls0_, ls1_, ls2_, i64_w, i32_w]
             rfl
            iterate 2 (refine psn_ HT_ ?_)
            refine done_ (done_of HT_.out (by kernel_rfl)) ?_
            try go_wp2
            have n0_ := Aside0.mk (Kd.R_drew HO_135000.out); have n1_ := Aside0.mk (blk_drew BK134.out); have n2_ := Aside0.mk (Kept.drew HK.out); have n3_ := Aside0.mk (below_drew1 HB.out); clear HO_135000 BK134 HK HB; have HO_135000 := n0_; have BK134 := n1_
            have HK := n2_
            have HB := n3_; clear n0_ n1_ n2_ n3_
            have p148 : 0 ≤ ((ji37) : Int) := od_
            have q148 : (ji37) < (x135000_1.length : Int) := od_
            obtain ⟨ad148, e148, hx148_0, hx148_1⟩ := at_T68 (Kd.R_reads' HO_135000.out).2.2 (ji37) p148 q148
            obtain rfl : ad145 = ad148 := (by injection e148)
            replace p148 := eq_true p148
            replace q148 := eq_true q148
            have p149 : 0 ≤ (x1_1 : Int) := od_
            have q149 : x1_1 < (x135000_1.length : Int) := od_
            obtain ⟨ad149, e149, hx149_0, hx149_1⟩ := at_T68 (Kd.R_reads' HO_135000.out).2.2 x1_1 p149 q149
            obtain rfl : ad145 = ad149 := (by injection e149)
            replace p149 := eq_true p149
            replace q149 := eq_true q149
            have p44 : 0 ≤ (x1_1 : Int) := od_
            have q44 : (x1_1 : Int) < ((x135000_1.length : Int) : Int) := od_
            obtain ⟨go44, co44, eo44, gb44, gl44, cl44, HG44⟩ := Kd.R_form HO_135000.out (by omega)
            (first | cases eo44 | (injection eo44 with ea_ en_ ec_; (first | subst ea_ | (injection ea_ with ea_; subst ea_)); subst ec_; clear en_))
            have GB44 := Aside0.mk gb44
            have GG44 := Aside0.mk HG44
            clear gb44 gl44 HG44
            have HMgo44 := Aside0.mk (show (P0_0_ go44 ∨ w.heap.size ≤ go44) from (HO_135000.out.1 _ rfl))
            (first | simp only [add_plain] at hx145_0 | skip)
            (first | simp only [add_plain] at hx145_1 | skip)
            (first | simp only [add_plain] at hx146_0 | skip)
            (first | simp only [add_plain] at hx146_1 | skip)
            (first | simp only [add_plain] at hx148_0 | skip)
            (first | simp only [add_plain] at hx148_1 | skip)
            (first | simp only [add_plain] at hx149_0 | skip)
            (first | simp only [add_plain] at hx149_1 | skip)
            obtain ⟨ce44, hcl44, hM44, hcc44, hfr44⟩ := Kd.R_elem HO_135000.out z68 (x1_1 : Int) p44 q44
            obtain rfl := k68_openM hM44
            have hx44_0 : World.cell? _ ⟨go44, (x1_1 : Int).toNat * 2, none⟩ = some (.int .i64 ((rd_T68 x135000_1 x1_1).f0)) := hcc44 0 _ rfl
            have hx44_1 : World.cell? _ ⟨go44, (x1_1 : Int).toNat * 2 + 1, none⟩ = some (.int .i64 ((rd_T68 x135000_1 x1_1).f1)) := hcc44 1 _ rfl
            have hf44_0 : World.frozen? _ ⟨go44, (x1_1 : Int).toNat * 2, none⟩ = false := hfr44 0
            have hf44_1 : World.frozen? _ ⟨go44, (x1_1 : Int).toNat * 2 + 1, none⟩ = false := hfr44 1
            clear hcl44 hcc44 hfr44 hM44
            replace p44 := eq_true p44
            replace q44 := eq_true q44
            obtain ⟨ce49, hcl49, hM49, hcc49, hfr49⟩ := Kd.R_elem HO_135000.out z68 (x1_1 : Int) (od_) (by have h_ : (x1_1 : Int) < ((x135000_1.length : Int) : Int) := od_; first | exact h_ | (have e_ := (Kd.R_reads' HO_135000.out).1; omega) | simpa using h_)
            obtain rfl := k68_openM hM49
            have HP49 := (Kd.R_seg HO_135000.out (x1_1 : Int) (od_) (by have h_ : (x1_1 : Int) < ((x135000_1.length : Int) : Int) := od_; first | exact h_ | (have e_ := (Kd.R_reads' HO_135000.out).1; omega) | simpa using h_) (seg := [.int .i64 ((rd_T68 x135000_1 (ji37)).f0), .int .i64 ((rd_T68 x135000_1 (ji37)).f1)]) (j := 0) hcl49 hcc49 (show 2 ≤ 2 from by decide) (x' := (⟨(rd_T68 x135000_1 (ji37)).f0, (rd_T68 x135000_1 (ji37)).f1⟩ : S68)) (k68_mkM _ _ _ (⟨(rd_T68 x135000_1 (ji37)).f0, (rd_T68 x135000_1 (ji37)).f1⟩ : S68) ) (fun _ hk => by first | exact hk | grind)).1
            rw [← Ny150.out] at HP49
            have HQ49 := Aside0.mk HP49
            clear hcl49 hcc49 hfr49 hM49 HP49
            have p45 : 0 ≤ ((ji37) : Int) := od_
            have q45 : ((ji37) : Int) < ((x135000_1.length : Int) : Int) := od_
            obtain ⟨ce45, hcl45, hM45, hcc45, hfr45⟩ := Kd.R_elem HQ49.out z68 ((ji37) : Int) p45 q45
            obtain rfl := k68_openM hM45
            have hx45_0 : World.cell? _ ⟨go44, ((ji37) : Int).toNat * 2, none⟩ = some (.int .i64 ((rd_T68 y150 (ji37)).f0)) := hcc45 0 _ rfl
            change World.cell? (World.setCell (World.setCell _ ⟨go44, (x1_1 : Int).toNat * 2, none⟩ (.int .i64 ((rd_T68 x135000_1 (ji37)).f0))) ⟨go44, (x1_1 : Int).toNat * 2 + 1, none⟩ (.int .i64 ((rd_T68 x135000_1 (ji37)).f1))) _ = _ at hx45_0
            have hx45_1 : World.cell? _ ⟨go44, ((ji37) : Int).toNat * 2 + 1, none⟩ = some (.int .i64 ((rd_T68 y150 (ji37)).f1)) := hcc45 1 _ rfl
            change World.cell? (World.setCell (World.setCell _ ⟨go44, (x1_1 : Int).toNat * 2, none⟩ (.int .i64 ((rd_T68 x135000_1 (ji37)).f0))) ⟨go44, (x1_1 : Int).toNat * 2 + 1, none⟩ (.int .i64 ((rd_T68 x135000_1 (ji37)).f1))) _ = _ at hx45_1
            have hf45_0 : World.frozen? _ ⟨go44, ((ji37) : Int).toNat * 2, none⟩ = false := hfr45 0
            change World.frozen? (World.setCell (World.setCell _ ⟨go44, (x1_1 : Int).toNat * 2, none⟩ (.int .i64 ((rd_T68 x135000_1 (ji37)).f0))) ⟨go44, (x1_1 : Int).toNat * 2 + 1, none⟩ (.int .i64 ((rd_T68 x135000_1 (ji37)).f1))) _ = _ at hf45_0
            have hf45_1 : World.frozen? _ ⟨go44, ((ji37) : Int).toNat * 2 + 1, none⟩ = false := hfr45 1
            change World.frozen? (World.setCell (World.setCell _ ⟨go44, (x1_1 : Int).toNat * 2, none⟩ (.int .i64 ((rd_T68 x135000_1 (ji37)).f0))) ⟨go44, (x1_1 : Int).toNat * 2 + 1, none⟩ (.int .i64 ((rd_T68 x135000_1 (ji37)).f1))) _ = _ at hf45_1
            clear hcl45 hcc45 hfr45 hM45
            replace p45 := eq_true p45
            replace q45 := eq_true q45
            obtain ⟨ce50, hcl50, hM50, hcc50, hfr50⟩ := Kd.R_elem HQ49.out z68 ((ji37) : Int) (od_) (by have h_ : ((ji37) : Int) < ((x135000_1.length : Int) : Int) := od_; first | exact h_ | (have e_ := (Kd.R_reads' HO_135000.out).1; omega) | simpa using h_)
            obtain rfl := k68_openM hM50
            have HP50 := (Kd.R_seg HQ49.out ((ji37) : Int) (od_) (by have h_ : ((ji37) : Int) < ((x135000_1.length : Int) : Int) := od_; first | exact h_ | (have e_ := (Kd.R_reads' HO_135000.out).1; omega) | simpa using h_) (seg := [.int .i64 ((rd_T68 x135000_1 x1_1).f0), .int .i64 ((rd_T68 x135000_1 x1_1).f1)]) (j := 0) hcl50 hcc50 (show 2 ≤ 2 from by decide) (x' := (⟨(rd_T68 x135000_1 x1_1).f0, (rd_T68 x135000_1 x1_1).f1⟩ : S68)) (k68_mkM _ _ _ (⟨(rd_T68 x135000_1 x1_1).f0, (rd_T68 x135000_1 x1_1).f1⟩ : S68) ) (fun _ hk => by first | exact hk | grind)).1
            rw [← Ny151.out] at HP50
            have HQ50 := Aside0.mk HP50
            clear hcl50 hcc50 hfr50 hM50 HP50
            refine start_ (n := 20) (S := fun w' => cw_ w' gb134 0 (.slice (some ⟨go44, 0, none⟩) x135000_1.length co3) ∧ w'.cell? ⟨go44, (((ji37)).toNat * 2), none⟩ = some (.int .i64 ((rd_T68 x135000_1 (ji37)).f0)) ∧ w'.cell? ⟨go44, (((ji37)).toNat * 2) + 1, none⟩ = some (.int .i64 ((rd_T68 x135000_1 (ji37)).f1)) ∧ w'.cell? ⟨go44, ((x1_1).toNat * 2), none⟩ = some (.int .i64 ((rd_T68 x135000_1 x1_1).f0)) ∧ w'.cell? ⟨go44, ((x1_1).toNat * 2) + 1, none⟩ = some (.int .i64 ((rd_T68 x135000_1 x1_1).f1))) (ds := [17, 19]) (bs 20 0) (by kernel_rfl) rfl rfl ⟨bt_ BK134 0, hx148_0, hx148_1, hx149_0, hx149_1⟩ (fun hHeld => ?_); refine with_tabW impl_Heap_down.tab5 impl_Heap_down.bits5 (fun HT_ HW_ => ?_)
            generalize w47.drew = w48 at HO_135000 BK134 HK HB GG44 HQ49 HQ50 hf44_0 hf44_1 hf45_0 hf45_1 hx145_0 hx145_1 hx146_0 hx146_1 hx148_0 hx148_1 hx149_0 hx149_1 hx44_0 hx44_1 hx45_0 hx45_1 hHeld ⊢
            refine psn_ HT_ ?_
            refine ps_ 2 51 (bm 20 5) HT_ ?_
            refine ps_ 3 52 (bm 20 13) HT_ ?_
            refine ps_ 5 54 (bm 20 45) HT_ ?_
            refine ps_ 6 55 (bm 20 109) HT_ ?_
            refine ps_ 8 57 (bm 20 365) HT_ ?_
            refine ps_ 11 60 (bm 20 2413) HT_ ?_
            refine ps_ 13 62 (bm 20 10605) HT_ ?_
            refine tk_ 1 50 (bm 20 10607) HT_ HW_ hHeld ?_
            refine tk_ 7 56 (bm 20 10735) HT_ HW_ hHeld ?_
            refine ps_ 9 58 (bm 20 11247) HT_ ?_
            refine tk_ 10 59 (bm 20 12271) HT_ HW_ hHeld ?_
            refine tk_ 12 61 (bm 20 16367) HT_ HW_ hHeld ?_
            refine ps_ 14 63 (bm 20 32751) HT_ ?_
            refine tk_ 15 64 (bm 20 65519) HT_ HW_ hHeld ?_
            refine ps_ 16 65 (bm 20 131055) HT_ ?_
            refine late_ (i := 4) (j := 17) (N := 53) (v := ?lv_3) (w1 := ?lw_3) (a' := ?la_3) (bs 20 17) (bm 20 262127) rfl rfl rfl rfl (by kernel_rfl) (by decide) ?h1_3 ?h2_3 ?h3_3 ?ha_3 rfl ?hp_3 ?hx_3 ?hwi_3 ?hwj_3 ?hwk_3 ?_
            (case h1_3 => obtain ⟨s0, s1, s2, s3, s4⟩ := hHeld; go_simp <;> (first | rfl | (constructor <;> rfl) | (refine ⟨?_, ?_⟩ <;> rfl)))
            (case h2_3 => go_simp; rfl)
            (case h3_3 => obtain ⟨s0, s1, s2, s3, s4⟩ := hHeld; have hb_ : go44 ≠ gb134 := fun e_ => (Kd.R_ne HO_135000.out BK134.out (by decide)) (by rw [e_]; rfl); have hb2_ := hb_.symm; go_simp <;> (first | rfl | (constructor <;> rfl) | (refine ⟨?_, ?_⟩ <;> rfl)))
            (case ha_3 => simp only [Act.put, ls0_, ls1_, ls2_, i64_w, i32_w]; rfl)
            (case hp_3 => rfl)
            (case hx_3 => rfl)
            (case hwi_3 => rfl)
            (case hwj_3 => rfl)
            (case hwk_3 => rfl)
            refine last_ (i := 17) (N := none) (bs 20 18) rfl rfl (one_of HT_.out (by kernel_rfl)) (by decide) (fun K hK => ?_)
            refine skip_ (w1 := ?_) (by rfl) rfl ?_ ?_
            rotate_left
            ·go_simp
             rfl
            refine hK.out _ _ ?_
            clear hK K
            refine ps_ 18 66 (bs 20 19) HT_ ?_
            refine last_ (i := 19) (N := none) (bs 20 20) rfl rfl (one_of HT_.out (by kernel_rfl)) (by decide) (fun K hK => ?_)
            refine skip_ (w1 := ?_) (by rfl) rfl ?_ ?_
            rotate_left
            ·go_simp
             rfl
            refine hK.out _ _ ?_
            clear hK K
            refine done_ (done_of HT_.out (by kernel_rfl)) ?_
            try go_wp2
            (try simp only [← hl135000_1])
            go_roundg kj4
            case measure => have := HK1.out; have := HJ4.out; omega
            case rel => exact ⟨((ji37)), (y151), (by first | rfl | (simp; done) | (simp only [← hji37] <;> (first | rfl | simp)) | (simp [*]; done)), H', ⟨by have := HK1.out; have := HJ4.out; omega⟩, ⟨by (try simp only [hl135000_1]); exact kr_ HQ50⟩, ⟨by (try simp only [hl135000_1]); (with_reducible repeat (first | refine blk_drewN ?_ _ | refine blk_drew ?_ | refine blk_alloc ?_ _)); refine blk_far ?_ (by have h_ := Kd.R_ne HO_135000.out BK134.out (by decide); intro e_; exact h_ (by rw [e_]; rfl)) _; (with_reducible repeat (first | refine blk_drewN ?_ _ | refine blk_drew ?_ | refine blk_alloc ?_ _)); refine blk_far ?_ (by have h_ := Kd.R_ne HO_135000.out BK134.out (by decide); intro e_; exact h_ (by rw [e_]; rfl)) _; (with_reducible repeat (first | refine blk_drewN ?_ _ | refine blk_drew ?_ | refine blk_alloc ?_ _)); refine blk_far ?_ (by have h_ := Kd.R_ne HO_135000.out BK134.out (by decide); intro e_; exact h_ (by rw [e_]; rfl)) _; (with_reducible repeat (first | refine blk_drewN ?_ _ | refine blk_drew ?_ | refine blk_alloc ?_ _)); refine blk_far ?_ (by have h_ := Kd.R_ne HO_135000.out BK134.out (by decide); intro e_; exact h_ (by rw [e_]; rfl)) _; exact bk_ BK134⟩, ⟨by repeat (first | (with_reducible first | exact HK.out | apply Kept.alloc | apply Kept.drewN | apply Kept.drew | refine Kept.setCell ?_ HMgo44.out _ | refine Kept.setCell ?_ HMgo44.out _ | refine Kept.setCell ?_ HMgo44.out _ | refine Kept.setCell ?_ HMgo44.out _ | refine Kept.setCell ?_ (.inr GW134.out) _) | exact HK.out)⟩, ⟨by repeat (first | (with_reducible first | exact HB.out | apply below_alloc | apply pw_below_drewN | apply below_drew1 | refine below_set ?_ GB44.out | refine below_set ?_ GB44.out | refine below_set ?_ GB44.out | refine below_set ?_ GB44.out | refine below_set ?_ GE134.out) | exact HB.out)⟩⟩
           ·replace c43 := Bool.eq_false_iff.mpr c43
            subst c43
            rw [if_neg (show ¬ (false = true) by decide)] at H
            obtain rfl := Option.some.inj H
            try go_wp2
            have n0_ := Aside0.mk (Kd.R_drew HO_135000.out); have n1_ := Aside0.mk (blk_drew BK134.out); have n2_ := Aside0.mk (Kept.drew HK.out); have n3_ := Aside0.mk (below_drew1 HB.out); clear HO_135000 BK134 HK HB; have HO_135000 := n0_; have BK134 := n1_
            have HK := n2_
            have HB := n3_; clear n0_ n1_ n2_ n3_
            have p145 : 0 ≤ ((ji37) : Int) := od_
            have q145 : (ji37) < (x135000_1.length : Int) := od_
            obtain ⟨ad145, e145, hx145_0, hx145_1⟩ := at_T68 (Kd.R_reads' HO_135000.out).2.2 (ji37) p145 q145
            cases e145
            replace p145 := eq_true p145
            replace q145 := eq_true q145
            have p146 : 0 ≤ (x1_1 : Int) := od_
            have q146 : x1_1 < (x135000_1.length : Int) := od_
            obtain ⟨ad146, e146, hx146_0, hx146_1⟩ := at_T68 (Kd.R_reads' HO_135000.out).2.2 x1_1 p146 q146
            obtain rfl : ad145 = ad146 := (by injection e146)
            replace p146 := eq_true p146
            replace q146 := eq_true q146
            refine start_ (n := 19) (S := fun w' => cw_ w' gb134 0 (.slice (some ad145) x135000_1.length co3) ∧ w'.cell? (ad145.add (((ji37)).toNat * 2)) = some (.int .i64 ((rd_T68 x135000_1 (ji37)).f0)) ∧ w'.cell? ⟨(ad145.add (((ji37)).toNat * 2)).block, (ad145.add (((ji37)).toNat * 2)).off + 1, none⟩ = some (.int .i64 ((rd_T68 x135000_1 (ji37)).f1)) ∧ w'.cell? (ad145.add ((x1_1).toNat * 2)) = some (.int .i64 ((rd_T68 x135000_1 x1_1).f0)) ∧ w'.cell? ⟨(ad145.add ((x1_1).toNat * 2)).block, (ad145.add ((x1_1).toNat * 2)).off + 1, none⟩ = some (.int .i64 ((rd_T68 x135000_1 x1_1).f1))) (ds := []) (bs 19 0) (by kernel_rfl) rfl rfl ⟨bt_ BK134 0, hx145_0, hx145_1, hx146_0, hx146_1⟩ (fun hHeld => ?_); refine with_tabW impl_Heap_down.tab4 impl_Heap_down.bits4 (fun HT_ HW_ => ?_)
            generalize wc.drew = w51 at HO_135000 BK134 HK HB hx145_0 hx145_1 hx146_0 hx146_1 hHeld ⊢
            iterate 2 (refine psn_ HT_ ?_)
            refine tkn_ HT_ HW_ hHeld ?_
            iterate 4 (refine psn_ HT_ ?_)
            refine ps_ 8 38 (bm 19 383) HT_ ?_
            refine ps_ 11 41 (bm 19 2431) HT_ ?_
            refine ps_ 13 43 (bm 19 10623) HT_ ?_
            refine tk_ 7 37 (bm 19 10751) HT_ HW_ hHeld ?_
            refine ps_ 9 39 (bm 19 11263) HT_ ?_
            refine tk_ 10 40 (bm 19 12287) HT_ HW_ hHeld ?_
            refine tk_ 12 42 (bs 19 14) HT_ HW_ hHeld ?_
            refine psn_ HT_ ?_
            refine tkn_ HT_ HW_ hHeld ?_
            refine on_ 16 (some 46) (bs 19 17) HT_ (fun K hK => ?_)
            refine goes_ Try.func68 (by kernel_rfl) rfl #[.agg #[.int .i64 ((rd_T68 x135000_1 (ji37)).f0), .int .i64 ((rd_T68 x135000_1 (ji37)).f1)], .agg #[.int .i64 ((rd_T68 x135000_1 x1_1).f0), .int .i64 ((rd_T68 x135000_1 x1_1).f1)]] (by rfl) rfl rfl (by (try simp only [List.map_toArray, List.map_cons, List.map_nil]); first | done | (simp only [hji37]; rfl) | rfl | (simp only [List.length_drop, List.length_take]; rfl)) ?_
            with_reducible refine (impl_Ahead.calls ((rd_T68 x135000_1 (ji37)).f0) ((rd_T68 x135000_1 (ji37)).f1) ((rd_T68 x135000_1 x1_1).f0) ((rd_T68 x135000_1 x1_1).f1) false _ A42.out).mono ?_
            rintro e w52 ⟨rfl, hb⟩
            have HS1_ := hc_ hb hHeld.2.1
            have HS2_ := hc_ hb hHeld.2.2.1
            have HS3_ := hc_ hb hHeld.2.2.2.1
            have HS4_ := hc_ hb hHeld.2.2.2.2
            refine ⟨_, rfl, ?_⟩
            have n0_ := Aside0.mk (Kd.R_below (kr_ HO_135000) hb); have n1_ := bb_ BK134 hb
            have n2_ := Aside0.mk (Kept.below (S := (fun k_ => P0_0_ k_)) (by repeat (first | (with_reducible first | exact HK.out | apply Kept.alloc | apply Kept.drewN | apply Kept.drew | refine Kept.setCell ?_ (.inr GW134.out) _) | exact HK.out)) hb)
            have n3_ := Aside0.mk (below_step (bf_ HB) hb); clear HO_135000 BK134 HK HB; have HO_135000 := n0_; have BK134 := n1_
            have HK := n2_
            have HB := n3_; clear n0_ n1_ n2_ n3_; (try clear hb); (try clear hb2); (try clear hk); (try clear hi)
            refine hK.out _ _ ⟨bt_ BK134 0, HS1_, HS2_, HS3_, HS4_⟩ (fun hHeld => ?_)
            clear hK K
            refine norm_ (a' := ?_) ?_ ?_
            rotate_left
            ·show Act.put _ (some 46) _ = _
             simp only [Act.put, ls0_, ls1_, ls2_, i64_w, i32_w]
             rfl
            iterate 2 (refine psn_ HT_ ?_)
            refine done_ (done_of HT_.out (by kernel_rfl)) ?_
            try go_wp2
            first | go_end0 | ((try simp only [Exit.inBlock, Exit.then]); refine bodyPost_ret (results_none rfl _ _ _) rfl ?_)
            exact ⟨by first | rfl | (simp [errW_none, errW_some] <;> rfl) | (simp only [← hji37]; first | rfl | (simp [errW_none, errW_some] <;> rfl)) | (simp [*, errW_none, errW_some] <;> rfl), (by first | exact (kr_ HO_135000) | (simp only [hl135000_1]; exact (kr_ HO_135000))), by repeat (first | (with_reducible first | exact HB.out | apply below_alloc | apply pw_below_drewN | apply below_drew1 | refine below_set ?_ GE134.out) | exact HB.out), by repeat (first | (with_reducible first | exact HK.out | apply Kept.alloc | apply Kept.drewN | apply Kept.drew | refine Kept.setCell ?_ (.inr GW134.out) _) | exact HK.out)⟩
          ·rw [if_neg c41] at H
           exact absurd H (by simp)
         ·rw [if_neg c40] at H
          exact absurd H (by simp)
        ·rw [if_neg c39] at H
         exact absurd H (by simp)
       ·rw [if_neg c38] at H
        exact absurd H (by simp)

end Go.Proofs.Ytnklakficjpmoaa.PFnHeapBook
