-- printed by a program of this session (wip/printx) out of the translation; Lean checks it
import Derived.Test.YtlafobfjbkhioaaXSq
import Derived.Test.YtlafobfjbkhioaaPFnStoreBookx0
import Derived.Test.YtlafobfjbkhioaaPFnStoreBookx1
namespace Go.Proofs.Ytlafobfjbkhioaa.PFnStoreBook
open Go.RowKit Go.Proofs.YtlafobfjbkhioaaW.PrintWords Go.Proofs.YtlafobfjbkhioaaW.PrintLast Go.Proofs.YtlafobfjbkhioaaW.PrintMore
attribute [local go_sem] max2_int min2_int max_two min_two max_three min_three max_four min_four   -- for this text's walks alone
set_option linter.unusedVariables false
set_option linter.unusedSimpArgs false

/-! ### impl_SlabOk: function 53 -/
mutual
def impl_SlabOk.l0 : Nat → Int → List Bool → List Int → Int → Int → Int → List Int → Option (Bool)
  | 0, _, _, _, _, _, _, _ => none
  | k + 1, x3, x4, x17, x18, x19, x132000, x132001 => if x19 < x18 then (if 0 ≤ x19 then (if x19 < (x17.length : Int) then ((impl_within.f (rd x17 x19) (-1) (wrap64 (x3 - 1))).bind fun t136 => (if t136 = true then (if (rd x17 x19) ≥ 0 then (if 0 ≤ (rd x17 x19) then (if (rd x17 x19) < (x4.length : Int) then (impl_SlabOk.j1 k x3 x4 (rd x17 x19) x17 x18 x19 (rdOf false x4 (rd x17 x19)) x132000 x132001) else (none)) else (none)) else (impl_SlabOk.j1 k x3 x4 (rd x17 x19) x17 x18 x19 false x132000 x132001)) else (impl_SlabOk.j1 k x3 x4 (rd x17 x19) x17 x18 x19 true x132000 x132001))) else (none)) else (none)) else (impl_SlabOk.l1 k x3 x4 0 x3 0 x132000 x132001)
def impl_SlabOk.j1 : Nat → Int → List Bool → Int → List Int → Int → Int → Bool → Int → List Int → Option (Bool)
  | 0, _, _, _, _, _, _, _, _, _ => none
  | k + 1, x3, x4, x6, x17, x18, x19, x37, x132000, x132001 => if x37 = true then (some false) else (if x6 ≥ 0 then (if 0 ≤ x6 then (if x6 < (x4.length : Int) then (impl_SlabOk.l0 k x3 (x4.set (x6 : Int).toNat true) x17 x18 (wrap64 (x19 + 1)) x132000 x132001) else (none)) else (none)) else (impl_SlabOk.l0 k x3 x4 x17 x18 (wrap64 (x19 + 1)) x132000 x132001))
def impl_SlabOk.l1 : Nat → Int → List Bool → Int → Int → Int → Int → List Int → Option (Bool)
  | 0, _, _, _, _, _, _, _ => none
  | k + 1, x3, x4, x7, x44, x45, x132000, x132001 => if x45 < x44 then (if 0 ≤ x45 then (if x45 < (x4.length : Int) then (if rdOf false x4 x45 = true then (impl_SlabOk.l1 k x3 x4 x7 x44 (wrap64 (x45 + 1)) x132000 x132001) else ((impl_Slab_chain.f k x132000 x132001 x45).bind fun t140 => (impl_SlabOk.l1 k x3 x4 (wrap64 (x7 + (t140.length : Int))) x44 (wrap64 (x45 + 1)) x132000 x132001))) else (none)) else (none)) else (if x7 = x3 then (if x132000 = (-1) then (some true) else ((impl_Slab_isHead.f k x132000 x132001 x132000).bind fun t143 => (some t143))) else (some false))
end
def impl_SlabOk.f (k : Nat) (a0_0 : Int) (l0_1 : List Int) : Option (Bool) := if (l0_1.length : Int) > 128 then (some false) else (if 0 ≤ (l0_1.length : Int) then (if ((l0_1.length : Int) : Int).toNat ≤ 281474976710656 then (impl_SlabOk.l0 k (l0_1.length : Int) (List.replicate ((l0_1.length : Int) : Int).toNat false) l0_1 (l0_1.length : Int) 0 a0_0 l0_1) else (none)) else (none))
theorem impl_SlabOk.mono_l : ∀ k, (∀ y0 y1 y2 y3 y4 y5 y6, LeO (impl_SlabOk.l0 k y0 y1 y2 y3 y4 y5 y6) (impl_SlabOk.l0 (k + 1) y0 y1 y2 y3 y4 y5 y6)) ∧ (∀ y0 y1 y2 y3 y4 y5 y6 y7 y8, LeO (impl_SlabOk.j1 k y0 y1 y2 y3 y4 y5 y6 y7 y8) (impl_SlabOk.j1 (k + 1) y0 y1 y2 y3 y4 y5 y6 y7 y8)) ∧ (∀ y0 y1 y2 y3 y4 y5 y6, LeO (impl_SlabOk.l1 k y0 y1 y2 y3 y4 y5 y6) (impl_SlabOk.l1 (k + 1) y0 y1 y2 y3 y4 y5 y6))
 | 0 => ⟨fun _ _ _ _ _ _ _ r h => by simp [impl_SlabOk.l0] at h, fun _ _ _ _ _ _ _ _ _ r h => by simp [impl_SlabOk.j1] at h, fun _ _ _ _ _ _ _ r h => by simp [impl_SlabOk.l1] at h⟩
 | k + 1 => by
  obtain ⟨ih0, ih1, ih2⟩ := impl_SlabOk.mono_l k
  refine ⟨?_, ?_, ?_⟩
  ·intro y0 y1 y2 y3 y4 y5 y6
   unfold impl_SlabOk.l0
   repeat' first
   | (with_reducible exact ih0 _ _ _ _ _ _ _)
   | (with_reducible exact ih1 _ _ _ _ _ _ _ _ _)
   | (with_reducible exact ih2 _ _ _ _ _ _ _)
   | (with_reducible exact impl_Slab_chain.mono _ _ _ _)
   | (with_reducible exact impl_Slab_isHead.mono _ _ _ _)
   | (with_reducible exact LeO.refl _)
   | (with_reducible exact LeO.none _)
   | (with_reducible refine LeO.ite ?_ ?_)
   | (with_reducible refine LeO.bind ?_ (fun _ => ?_))
   | exact ih0 _ _ _ _ _ _ _
   | exact ih1 _ _ _ _ _ _ _ _ _
   | exact ih2 _ _ _ _ _ _ _
   | exact impl_Slab_chain.mono _ _ _ _
   | exact impl_Slab_isHead.mono _ _ _ _
   | exact LeO.none _
   | refine LeO.ite ?_ ?_
   | refine LeO.bind ?_ (fun _ => ?_)
  ·intro y0 y1 y2 y3 y4 y5 y6 y7 y8
   unfold impl_SlabOk.j1
   repeat' first
   | (with_reducible exact ih0 _ _ _ _ _ _ _)
   | (with_reducible exact ih1 _ _ _ _ _ _ _ _ _)
   | (with_reducible exact ih2 _ _ _ _ _ _ _)
   | (with_reducible exact impl_Slab_chain.mono _ _ _ _)
   | (with_reducible exact impl_Slab_isHead.mono _ _ _ _)
   | (with_reducible exact LeO.refl _)
   | (with_reducible exact LeO.none _)
   | (with_reducible refine LeO.ite ?_ ?_)
   | (with_reducible refine LeO.bind ?_ (fun _ => ?_))
   | exact ih0 _ _ _ _ _ _ _
   | exact ih1 _ _ _ _ _ _ _ _ _
   | exact ih2 _ _ _ _ _ _ _
   | exact impl_Slab_chain.mono _ _ _ _
   | exact impl_Slab_isHead.mono _ _ _ _
   | exact LeO.none _
   | refine LeO.ite ?_ ?_
   | refine LeO.bind ?_ (fun _ => ?_)
  ·intro y0 y1 y2 y3 y4 y5 y6
   unfold impl_SlabOk.l1
   repeat' first
   | (with_reducible exact ih0 _ _ _ _ _ _ _)
   | (with_reducible exact ih1 _ _ _ _ _ _ _ _ _)
   | (with_reducible exact ih2 _ _ _ _ _ _ _)
   | (with_reducible exact impl_Slab_chain.mono _ _ _ _)
   | (with_reducible exact impl_Slab_isHead.mono _ _ _ _)
   | (with_reducible exact LeO.refl _)
   | (with_reducible exact LeO.none _)
   | (with_reducible refine LeO.ite ?_ ?_)
   | (with_reducible refine LeO.bind ?_ (fun _ => ?_))
   | exact ih0 _ _ _ _ _ _ _
   | exact ih1 _ _ _ _ _ _ _ _ _
   | exact ih2 _ _ _ _ _ _ _
   | exact impl_Slab_chain.mono _ _ _ _
   | exact impl_Slab_isHead.mono _ _ _ _
   | exact LeO.none _
   | refine LeO.ite ?_ ?_
   | refine LeO.bind ?_ (fun _ => ?_)
theorem impl_SlabOk.mono : ∀ a0 a1 k, LeO (impl_SlabOk.f k a0 a1) (impl_SlabOk.f (k + 1) a0 a1) := by
 intro a0 a1 k
 obtain ⟨ih0, ih1, ih2⟩ := impl_SlabOk.mono_l k
 unfold impl_SlabOk.f
 repeat' first
   | (with_reducible exact ih0 _ _ _ _ _ _ _)
   | (with_reducible exact ih1 _ _ _ _ _ _ _ _ _)
   | (with_reducible exact ih2 _ _ _ _ _ _ _)
   | (with_reducible exact impl_Slab_chain.mono _ _ _ _)
   | (with_reducible exact impl_Slab_isHead.mono _ _ _ _)
   | (with_reducible exact LeO.refl _)
   | (with_reducible exact LeO.none _)
   | (with_reducible refine LeO.ite ?_ ?_)
   | (with_reducible refine LeO.bind ?_ (fun _ => ?_))
   | exact ih0 _ _ _ _ _ _ _
   | exact ih1 _ _ _ _ _ _ _ _ _
   | exact ih2 _ _ _ _ _ _ _
   | exact impl_Slab_chain.mono _ _ _ _
   | exact impl_Slab_isHead.mono _ _ _ _
   | exact LeO.none _
   | refine LeO.ite ?_ ?_
   | refine LeO.bind ?_ (fun _ => ?_)
set_option maxHeartbeats 8000000 in
set_option maxRecDepth 100000 in
theorem impl_SlabOk.calls (k : Nat) (a0_0 : Int) (A0_1 : Option Addr) (c0_1 : Nat) (l0_1 : List Int) (r : Bool) (w : World) (hr0_1 : Kd.C (Kd.int .i64) w A0_1 l0_1.length l0_1) (hc0_1 : l0_1.length ≤ c0_1) (h : impl_SlabOk.f k a0_0 l0_1 = some r) :
  Calls Try.prog 53 #[.agg #[.int .i64 a0_0, .slice A0_1 l0_1.length c0_1]] w fun e w' => e = .returned (.bool r) ∧ Below w.heap.size w w' := by
 have hu27 := Try.underlying27
 have HR0_1 := Aside0.mk hr0_1
 have HC0_1 := Aside0.mk hc0_1
 clear hr0_1 hc0_1; have HB := Aside0.mk (Below.refl w.heap.size w)
 have H : (if (l0_1.length : Int) > 128 then (some false) else (if 0 ≤ (l0_1.length : Int) then (if ((l0_1.length : Int) : Int).toNat ≤ 281474976710656 then (impl_SlabOk.l0 k (l0_1.length : Int) (List.replicate ((l0_1.length : Int) : Int).toNat false) l0_1 (l0_1.length : Int) 0 a0_0 l0_1) else (none)) else (none))) = some r := h
 clear h
 by_cases c2 : (l0_1.length : Int) > 128
 ·rw [if_pos c2] at H
  have c2b0 : decide (128 < (l0_1.length : Int)) = true := decide_eq_true c2
  have c2b1 : decide (128 < l0_1.length) = true := decide_eq_true (by omega)
  clear c2
  obtain rfl := Option.some.inj H
  go_enter Try.func53, Try.ntmps53
  go_wp2_with (first | ((with_reducible refine gd_ 1 rfl ?_); refine bv_ 1 #[.int .i64 a0_0, .slice A0_1 l0_1.length c0_1] 27 ?_; intro gb131 hg w3 hbox hb; have BK131 := Aside0.mk (hbox); have GW131 := gw_ HB hg; have GE131 := gw_ HB hg; replace HB := Aside0.mk (below_step (be_ HB) hb); clear hb hbox hg; obtain ⟨hcz4_0, hcz4_1, hfz4_0, hfz4_1⟩ := bz2_ BK131))
  go_ret
  exact ⟨by first | rfl | (simp [errW_none, errW_some] <;> rfl) | (simp [*, errW_none, errW_some] <;> rfl), bf_ HB⟩
 ·rw [if_neg c2] at H
  have c2b0 : decide (128 < (l0_1.length : Int)) = false := decide_eq_false c2
  have c2b1 : decide (128 < l0_1.length) = false := decide_eq_false (by omega)
  clear c2
  by_cases c5 : 0 ≤ (l0_1.length : Int)
  ·rw [if_pos c5] at H
   have c5b0 := eq_true c5
   have c5b1 : decide (0 ≤ (l0_1.length : Int)) = true := decide_eq_true c5
   clear c5
   by_cases c6 : ((l0_1.length : Int) : Int).toNat ≤ 281474976710656
   ·rw [if_pos c6] at H
    have c6b0 := eq_true c6
    have c6b1 : decide (((l0_1.length : Int) : Int).toNat ≤ 281474976710656) = true := decide_eq_true c6
    clear c6
    obtain ⟨y132, hy132⟩ : ∃ y_ : List Bool, y_ = (List.replicate ((l0_1.length : Int) : Int).toNat false) := ⟨_, rfl⟩
    replace H : (impl_SlabOk.l0 k (l0_1.length : Int) y132 l0_1 (l0_1.length : Int) 0 a0_0 l0_1) = some r := by first | (rw [hy132]; with_reducible exact H) | (have H2_ := (Option.bind_some _ _).symm.trans H; rw [hy132]; with_reducible exact H2_) | (have H2_ := (Option.bind_some _ _).symm.trans H; with_reducible exact H2_) | with_reducible exact H | (rw [hy132]; exact H) | exact H
    have Ny132 := Aside0.mk hy132
    clear hy132
    have H' := Aside0.mk H
    clear H
    go_enter Try.func53, Try.ntmps53
    go_wp2_with (first | ((with_reducible refine gd_ 1 rfl ?_); refine bv_ 1 #[.int .i64 a0_0, .slice A0_1 l0_1.length c0_1] 27 ?_; intro gb131 hg w7 hbox hb; have BK131 := Aside0.mk (hbox); have GW131 := gw_ HB hg; have GE131 := gw_ HB hg; replace HB := Aside0.mk (below_step (be_ HB) hb); clear hb hbox hg; obtain ⟨hcz8_0, hcz8_1, hfz8_0, hfz8_1⟩ := bz2_ BK131) | ((with_reducible refine gd_ 15 rfl ?_); refine Kd.R_make Kd.bool _ 4 rfl (N := 15) rfl 154 _ _ rfl (l0_1.length : Int) rfl rfl Try.underlying154 (.bool false) 1 info4 rfl (by decide) (by omega) false (ok := fun _ => True) (okp := fun _ => True) rfl (fun _ hk => by first | exact hk | grind) trivial (od_) (Nat.le_trans (Nat.mul_le_mul_right _ (od_ : (l0_1.length : Int).toNat ≤ 281474976710656)) (by omega)) (Below.refl _ _) (Nat.le_refl _) ?_; intro v133 w9 ho10 hb hg_ hnew_; clear hg_ hnew_; (first | rw [← Ny132.out] at ho10 | (simp only [Int.reduceToNat] at ho10; rw [← Ny132.out] at ho10)); have HO134 := Aside0.mk (Kd.R_lower ho10 (below_size (bf_ HB))); replace BK131 := bb_ BK131 hb; replace HB := Aside0.mk (below_step (bf_ HB) hb); clear hb ho10; obtain ⟨hcz11_0, hcz11_1, hfz11_0, hfz11_1⟩ := bz2_ BK131))
    go_loopg [19] k (fun kq v19 w' => ∃ (x4_1 : List Bool) (x19_1 : Int), v19 = .int .i64 x19_1 ∧ Aside0 (impl_SlabOk.l0 kq (l0_1.length : Int) x4_1 l0_1 (l0_1.length : Int) x19_1 a0_0 l0_1 = some r) ∧ Aside0 (kq ≤ k) ∧ Aside0 (Kd.R Kd.bool 4 w' w.heap.size (fun _ => True) v133 x4_1) ∧ Aside0 (w'.heap[gb131]? = some (.cells #[.int .i64 a0_0, (.slice A0_1 l0_1.length c0_1)] 27 (0, 0))) ∧ Aside0 (Below w.heap.size w w'))
    case atStart => exact ⟨(y132), (0), (by first | rfl | (simp; done) | (simp [*]; done)), H', ⟨Nat.le_refl _⟩, ⟨kr_ HO134⟩, ⟨bk_ BK131⟩, ⟨bf_ HB⟩⟩
    case round =>
     clear H'
     (try clear c2); (try clear c2b0); (try clear c2b1); (try clear p2); (try clear c5); (try clear c5b0); (try clear c5b1); (try clear c6); (try clear c6b0); (try clear c6b1); (try clear hcz11_0 hcz11_1 hfz11_0 hfz11_1); (try clear hcz4_0 hcz4_1 hfz4_0 hfz4_1); (try clear hcz8_0 hcz8_1 hfz8_0 hfz8_1)
     obtain ⟨x4_1, x19_1, rfl, HA, HK1, HO_4, BK131, HB⟩ := hrel
     cases gk with
     | zero => exact absurd HA.out (by simp [impl_SlabOk.l0])
     | succ k1 =>
      have H := HA.out
      clear HA
      simp only [impl_SlabOk.l0] at H
      by_cases c12 : x19_1 < (l0_1.length : Int)
      ·rw [if_pos c12] at H
       have c12b0 : decide (x19_1 < (l0_1.length : Int)) = true := decide_eq_true c12
       clear c12
       by_cases c13 : 0 ≤ x19_1
       ·rw [if_pos c13] at H
        have c13b0 : decide (0 ≤ x19_1) = true := decide_eq_true c13
        clear c13
        by_cases c14 : x19_1 < (l0_1.length : Int)
        ·rw [if_pos c14] at H
         have c14b0 : decide (x19_1 < (l0_1.length : Int)) = true := decide_eq_true c14
         clear c14
         have HC15 := Aside0.mk H
         clear H
         have p135 : 0 ≤ (x19_1 : Int) := od_
         have q135 : x19_1 < (l0_1.length : Int) := od_
         obtain ⟨ad135, e135, hx135_0⟩ := Kd.at_int HR0_1.out x19_1 p135 q135
         cases e135
         replace hx135_0 := hb_ HB hx135_0
         replace p135 := eq_true p135
         replace q135 := eq_true q135
         go_upto_region 8 with (fail)
         go_cut [37] (fun v37 wc => ∃ (kq : Nat) (x37_14 : Bool), v37 = .bool x37_14 ∧ Aside0 (impl_SlabOk.j1 kq (l0_1.length : Int) x4_1 (rd l0_1 x19_1) l0_1 (l0_1.length : Int) x19_1 x37_14 a0_0 l0_1 = some r) ∧ Aside0 (kq ≤ k1) ∧ Aside0 (Kd.R Kd.bool 4 wc w.heap.size (fun _ => True) v133 x4_1) ∧ Aside0 (wc.heap[gb131]? = some (.cells #[.int .i64 a0_0, (.slice (some ad135) l0_1.length c0_1)] 27 (0, 0))) ∧ Aside0 (Below w.heap.size w wc))
         case first =>
          have H := HC15.out
          clear HC15
          replace H := Option.bind_eq_some_iff.mp H
          obtain ⟨t136, A160, H⟩ := H
          replace H : (if t136 = true then (if (rd l0_1 x19_1) ≥ 0 then (if 0 ≤ (rd l0_1 x19_1) then (if (rd l0_1 x19_1) < (x4_1.length : Int) then (impl_SlabOk.j1 k1 (l0_1.length : Int) x4_1 (rd l0_1 x19_1) l0_1 (l0_1.length : Int) x19_1 (rdOf false x4_1 (rd l0_1 x19_1)) a0_0 l0_1) else (none)) else (none)) else (impl_SlabOk.j1 k1 (l0_1.length : Int) x4_1 (rd l0_1 x19_1) l0_1 (l0_1.length : Int) x19_1 false a0_0 l0_1)) else (impl_SlabOk.j1 k1 (l0_1.length : Int) x4_1 (rd l0_1 x19_1) l0_1 (l0_1.length : Int) x19_1 true a0_0 l0_1)) = some r := H
          have A16 := Aside0.mk A160
          clear A160
          by_cases c17 : t136 = true
          ·subst c17
           have H1 : (if (rd l0_1 x19_1) ≥ 0 then (if 0 ≤ (rd l0_1 x19_1) then (if (rd l0_1 x19_1) < (x4_1.length : Int) then (impl_SlabOk.j1 k1 (l0_1.length : Int) x4_1 (rd l0_1 x19_1) l0_1 (l0_1.length : Int) x19_1 (rdOf false x4_1 (rd l0_1 x19_1)) a0_0 l0_1) else (none)) else (none)) else (impl_SlabOk.j1 k1 (l0_1.length : Int) x4_1 (rd l0_1 x19_1) l0_1 (l0_1.length : Int) x19_1 false a0_0 l0_1)) = some r := by rw [if_pos rfl] at H; exact H
           clear H
           have H := H1
           clear H1
           by_cases c18 : (rd l0_1 x19_1) ≥ 0
           ·rw [if_pos c18] at H
            have c18b0 : decide (0 ≤ (rd l0_1 x19_1)) = true := decide_eq_true c18
            clear c18
            (first | rw [c18b0] | (simp only [i64_w, i32_w]; rw [c18b0]) | skip)
            by_cases c19 : 0 ≤ (rd l0_1 x19_1)
            ·rw [if_pos c19] at H
             have c19b0 : decide (0 ≤ (rd l0_1 x19_1)) = true := decide_eq_true c19
             clear c19
             by_cases c20 : (rd l0_1 x19_1) < (x4_1.length : Int)
             ·rw [if_pos c20] at H
              have c20b0 : decide ((rd l0_1 x19_1) < (x4_1.length : Int)) = true := decide_eq_true c20
              clear c20
              have H' := Aside0.mk H
              clear H
              go_wp2_with (first | ((with_reducible refine gc_ 45 rfl ?_); refine gl_ 26 Try.func45 #[.int .i64 (rd l0_1 x19_1), .int .i64 (-1), .int .i64 (wrap64 ((l0_1.length : Int) - 1))] ?_; (with_reducible refine (impl_within.calls (rd l0_1 x19_1) (-1) (wrap64 ((l0_1.length : Int) - 1)) true _ A16.out).mono ?_); rintro e w' ⟨rfl, ⟨nd, rfl⟩⟩; refine ⟨_, rfl, ?_⟩; obtain ⟨Ao21, co21, eo21⟩ := Kd.R_slice HO_4.out; subst eo21; have p137 : 0 ≤ ((rd l0_1 x19_1) : Int) := od_; have q137 : (rd l0_1 x19_1) < (x4_1.length : Int) := od_; obtain ⟨ad137, e137, hx137_0⟩ := Kd.at_bool (Kd.R_reads' HO_4.out).2.2 (rd l0_1 x19_1) p137 q137; cases e137; replace p137 := eq_true p137; replace q137 := eq_true q137))
              go_meet
              case rel => exact ⟨_, (rdOf false x4_1 (rd l0_1 x19_1)), (by first | rfl | (simp; done) | (simp [*]; done)), H', ⟨by have := HK1.out; first | omega | exact Nat.le_refl _⟩, ⟨kr_ HO_4⟩, ⟨bk_ BK131⟩, ⟨bf_ HB⟩⟩
             ·rw [if_neg c20] at H
              exact absurd H (by simp)
            ·rw [if_neg c19] at H
             exact absurd H (by simp)
           ·rw [if_neg c18] at H
            have c18b0 : decide (0 ≤ (rd l0_1 x19_1)) = false := decide_eq_false c18
            clear c18
            (first | rw [c18b0] | (simp only [i64_w, i32_w]; rw [c18b0]) | skip)
            have H' := Aside0.mk H
            clear H
            go_wp2_with (first | ((with_reducible refine gc_ 45 rfl ?_); refine gl_ 26 Try.func45 #[.int .i64 (rd l0_1 x19_1), .int .i64 (-1), .int .i64 (wrap64 ((l0_1.length : Int) - 1))] ?_; (with_reducible refine (impl_within.calls (rd l0_1 x19_1) (-1) (wrap64 ((l0_1.length : Int) - 1)) true _ A16.out).mono ?_); rintro e w' ⟨rfl, ⟨nd, rfl⟩⟩; refine ⟨_, rfl, ?_⟩))
            go_meet
            case rel => exact ⟨_, (false), (by first | rfl | (simp; done) | (simp [*]; done)), H', ⟨by have := HK1.out; first | omega | exact Nat.le_refl _⟩, ⟨kr_ HO_4⟩, ⟨bk_ BK131⟩, ⟨bf_ HB⟩⟩
          ·replace c17 := Bool.eq_false_iff.mpr c17
           subst c17
           have H1 : (impl_SlabOk.j1 k1 (l0_1.length : Int) x4_1 (rd l0_1 x19_1) l0_1 (l0_1.length : Int) x19_1 true a0_0 l0_1) = some r := by rw [if_neg (show ¬ (false = true) by decide)] at H; exact H
           clear H
           have H := H1
           clear H1
           have H' := Aside0.mk H
           clear H
           go_wp2_with (first | ((with_reducible refine gc_ 45 rfl ?_); refine gl_ 26 Try.func45 #[.int .i64 (rd l0_1 x19_1), .int .i64 (-1), .int .i64 (wrap64 ((l0_1.length : Int) - 1))] ?_; (with_reducible refine (impl_within.calls (rd l0_1 x19_1) (-1) (wrap64 ((l0_1.length : Int) - 1)) false _ A16.out).mono ?_); rintro e w' ⟨rfl, ⟨nd, rfl⟩⟩; refine ⟨_, rfl, ?_⟩))
           go_meet
           case rel => exact ⟨_, (true), (by first | rfl | (simp; done) | (simp [*]; done)), H', ⟨by have := HK1.out; first | omega | exact Nat.le_refl _⟩, ⟨kr_ HO_4⟩, ⟨bk_ BK131⟩, ⟨bf_ HB⟩⟩
         case rest =>
          clear HC15; (try clear c1); (try clear p1); (try clear q1); (try clear hx1); (try clear c2); (try clear c2b0); (try clear c2b1); (try clear p2 p2); (try clear c4); (try clear c5); (try clear c5b0); (try clear c5b1); (try clear c6); (try clear c6b0); (try clear c6b1); (try clear p6); (try clear c12); (try clear c12b0); (try clear c13); (try clear c13b0); (try clear p13); (try clear q13); (try clear hx13); (try clear c14); (try clear c14b0); (try clear c17); (try clear c18); (try clear c18b0); (try clear c19); (try clear c19b0); (try clear c20); (try clear c20b0); (try clear hcz11_0 hcz11_1 hfz11_0 hfz11_1); (try clear hcz4_0 hcz4_1 hfz4_0 hfz4_1); (try clear hcz8_0 hcz8_1 hfz8_0 hfz8_1); (try clear hx135_0); (try clear hx137_0); (try clear p135); (try clear p137); (try clear q135); (try clear q137)
          obtain ⟨kq, x37_14, rfl, HA, HJ14, HO_4, BK131, HB⟩ := hcut
          cases kq with
          | zero => exact absurd HA.out (by simp [impl_SlabOk.j1])
          | succ kj14 =>
           have H := HA.out
           clear HA
           simp only [impl_SlabOk.j1] at H
           by_cases c22 : x37_14 = true
           ·subst c22
            have H1 : (some false) = some r := by rw [if_pos rfl] at H; exact H
            clear H
            have H := H1
            clear H1
            obtain rfl := Option.some.inj H
            go_wp2
            go_ret
            exact ⟨by first | rfl | (simp [errW_none, errW_some] <;> rfl) | (simp [*, errW_none, errW_some] <;> rfl), bf_ HB⟩
           ·replace c22 := Bool.eq_false_iff.mpr c22
            subst c22
            have H1 : (if (rd l0_1 x19_1) ≥ 0 then (if 0 ≤ (rd l0_1 x19_1) then (if (rd l0_1 x19_1) < (x4_1.length : Int) then (impl_SlabOk.l0 kj14 (l0_1.length : Int) (x4_1.set ((rd l0_1 x19_1) : Int).toNat true) l0_1 (l0_1.length : Int) (wrap64 (x19_1 + 1)) a0_0 l0_1) else (none)) else (none)) else (impl_SlabOk.l0 kj14 (l0_1.length : Int) x4_1 l0_1 (l0_1.length : Int) (wrap64 (x19_1 + 1)) a0_0 l0_1)) = some r := by rw [if_neg (show ¬ (false = true) by decide)] at H; exact H
            clear H
            have H := H1
            clear H1
            by_cases c23 : (rd l0_1 x19_1) ≥ 0
            ·rw [if_pos c23] at H
             have c23b0 : decide (0 ≤ (rd l0_1 x19_1)) = true := decide_eq_true c23
             clear c23
             by_cases c24 : 0 ≤ (rd l0_1 x19_1)
             ·rw [if_pos c24] at H
              have c24b0 : decide (0 ≤ (rd l0_1 x19_1)) = true := decide_eq_true c24
              clear c24
              by_cases c25 : (rd l0_1 x19_1) < (x4_1.length : Int)
              ·rw [if_pos c25] at H
               have c25b0 : decide ((rd l0_1 x19_1) < (x4_1.length : Int)) = true := decide_eq_true c25
               clear c25
               obtain ⟨y138, hy138⟩ : ∃ y_ : List Bool, y_ = (x4_1.set ((rd l0_1 x19_1) : Int).toNat true) := ⟨_, rfl⟩
               replace H : (impl_SlabOk.l0 kj14 (l0_1.length : Int) y138 l0_1 (l0_1.length : Int) (wrap64 (x19_1 + 1)) a0_0 l0_1) = some r := by first | (rw [hy138]; with_reducible exact H) | (have H2_ := (Option.bind_some _ _).symm.trans H; rw [hy138]; with_reducible exact H2_) | (have H2_ := (Option.bind_some _ _).symm.trans H; with_reducible exact H2_) | with_reducible exact H | (rw [hy138]; exact H) | exact H
               have Ny138 := Aside0.mk hy138
               clear hy138
               have H' := Aside0.mk H
               clear H
               have p26 : 0 ≤ ((rd l0_1 x19_1) : Int) := od_
               have q26 : ((rd l0_1 x19_1) : Int) < ((x4_1.length : Int) : Int) := od_
               obtain ⟨go26, co26, eo26, gb26, gl26, cl26, HG26⟩ := Kd.R_form HO_4.out (by omega)
               (first | cases eo26 | (injection eo26 with ea_ en_ ec_; (first | subst ea_ | (injection ea_ with ea_; subst ea_)); subst ec_; clear en_))
               have GB26 := Aside0.mk gb26
               have GG26 := Aside0.mk HG26
               clear gb26 gl26 HG26
               obtain ⟨hx26_0, hf26_0⟩ := Kd.R_celln false HO_4.out ((rd l0_1 x19_1) : Int) p26 q26
               replace p26 := eq_true p26
               replace q26 := eq_true q26
               have HP27 := Kd.R_putg HO_4.out ((rd l0_1 x19_1) : Int) true
               go_wp2_with (first | ((with_reducible refine gate_store (t := 4) (p := 42) rfl ?_); refine store_event (t := 4) (p := 42) (v := ?vo_w28) (w1 := (wc.setCell ⟨go26, ((rd l0_1 x19_1) : Int).toNat, none⟩ (.bool true))) ?hg ?ho ?hn ?hr ?_; (case ho => rfl); (case hg => rfl); (case hn => rfl); (case hr => first | (go_simp; done) | (go_simp; rfl)); intro w28 hw; have hg : wc.grownBy w28 (some go26) := (by rw [hw]; exact HP27.2); have hp_ : Kd.R Kd.bool 4 w28 w.heap.size (fun _ => True) (.slice (some ⟨go26, 0, none⟩) x4_1.length co26) y138 := (by rw [hw, Ny138.out]; exact HP27.1); clear HP27; replace BK131 := Aside0.mk (blk_grown (g := gb131) (o := .cells #[.int .i64 a0_0, .slice (some ad135) l0_1.length c0_1] 27 (0, 0)) (bk_ BK131) hg (Kd.R_ne HO_4.out BK131.out (by decide))); replace HO_4 := Aside0.mk (hp_); replace HB := Aside0.mk ((by rw [hw]; exact below_set (HB.out) GB26.out : Below w.heap.size w w28)); clear hg hw hp_))
               go_roundg kj14
               case measure => have := HK1.out; have := HJ14.out; omega
               case rel => exact ⟨(y138), (wrap64 (x19_1 + 1)), (by first | rfl | (simp; done) | (simp [*]; done)), H', ⟨by have := HK1.out; have := HJ14.out; omega⟩, ⟨kr_ HO_4⟩, ⟨bk_ BK131⟩, ⟨bf_ HB⟩⟩
              ·rw [if_neg c25] at H
               exact absurd H (by simp)
             ·rw [if_neg c24] at H
              exact absurd H (by simp)
            ·rw [if_neg c23] at H
             have c23b0 : decide (0 ≤ (rd l0_1 x19_1)) = false := decide_eq_false c23
             clear c23
             have H' := Aside0.mk H
             clear H
             go_wp2
             go_roundg kj14
             case measure => have := HK1.out; have := HJ14.out; omega
             case rel => exact ⟨(x4_1), (wrap64 (x19_1 + 1)), (by first | rfl | (simp; done) | (simp [*]; done)), H', ⟨by have := HK1.out; have := HJ14.out; omega⟩, ⟨kr_ HO_4⟩, ⟨bk_ BK131⟩, ⟨bf_ HB⟩⟩
        ·rw [if_neg c14] at H
         exact absurd H (by simp)
       ·rw [if_neg c13] at H
        exact absurd H (by simp)
      ·rw [if_neg c12] at H
       have c12b0 : decide (x19_1 < (l0_1.length : Int)) = false := decide_eq_false c12
       clear c12
       have H' := Aside0.mk H
       clear H
       go_wp2
       go_loopg [7, 45] k1 (fun kq v7 v45 w' => ∃ (x7_2 : Int) (x45_2 : Int), v7 = .int .i64 x7_2 ∧ v45 = .int .i64 x45_2 ∧ Aside0 (impl_SlabOk.l1 kq (l0_1.length : Int) x4_1 x7_2 (l0_1.length : Int) x45_2 a0_0 l0_1 = some r) ∧ Aside0 (kq ≤ k1) ∧ Aside0 (Kd.R Kd.bool 4 w' w.heap.size (fun _ => True) v133 x4_1) ∧ Aside0 (w'.heap[gb131]? = some (.cells #[.int .i64 a0_0, (.slice A0_1 l0_1.length c0_1)] 27 (0, 0))) ∧ Aside0 (Below w.heap.size w w'))
       case atStart => exact ⟨(0), (0), (by first | rfl | (simp; done) | (simp [*]; done)), (by first | rfl | (simp; done) | (simp [*]; done)), H', ⟨Nat.le_refl _⟩, ⟨kr_ HO_4⟩, ⟨bk_ BK131⟩, ⟨bf_ HB⟩⟩
       case round =>
        clear H'
        (try clear c1); (try clear p1 p1); (try clear q1 q1); (try clear hx1); (try clear c2); (try clear c2b0); (try clear c2b1); (try clear p2 p2); (try clear q2); (try clear hx2); (try clear hf2); (try clear c4); (try clear c5); (try clear c5b0); (try clear c5b1); (try clear c6); (try clear c6b0); (try clear c6b1); (try clear p6 p6); (try clear c12); (try clear c12b0); (try clear c13); (try clear c13b0); (try clear p13 p13); (try clear q13 q13); (try clear hx13); (try clear c14); (try clear c14b0); (try clear c17); (try clear c18); (try clear c18b0); (try clear c19); (try clear c19b0); (try clear c20); (try clear c20b0); (try clear c22); (try clear c23); (try clear c23b0); (try clear c24); (try clear c24b0); (try clear c25); (try clear c25b0); (try clear p26 p26); (try clear q26 q26); (try clear hx26); (try clear hf26); (try clear hcz11_0 hcz11_1 hfz11_0 hfz11_1); (try clear hcz4_0 hcz4_1 hfz4_0 hfz4_1); (try clear hcz8_0 hcz8_1 hfz8_0 hfz8_1); (try clear hx135_0); (try clear hx137_0); (try clear hx26_0); (try clear p135); (try clear p137); (try clear q135); (try clear q137)
        obtain ⟨x7_2, x45_2, rfl, rfl, HA, HK2, HO_4, BK131, HB⟩ := hrel
        cases gk with
        | zero => exact absurd HA.out (by simp [impl_SlabOk.l1])
        | succ k2 =>
         have H := HA.out
         clear HA
         simp only [impl_SlabOk.l1] at H
         by_cases c29 : x45_2 < (l0_1.length : Int)
         ·rw [if_pos c29] at H
          have c29b0 : decide (x45_2 < (l0_1.length : Int)) = true := decide_eq_true c29
          clear c29
          by_cases c30 : 0 ≤ x45_2
          ·rw [if_pos c30] at H
           have c30b0 : decide (0 ≤ x45_2) = true := decide_eq_true c30
           clear c30
           by_cases c31 : x45_2 < (x4_1.length : Int)
           ·rw [if_pos c31] at H
            have c31b0 : decide (x45_2 < (x4_1.length : Int)) = true := decide_eq_true c31
            clear c31
            obtain ⟨bq32, hbq32⟩ : ∃ b_ : Bool, b_ = (rdOf false x4_1 x45_2) := ⟨_, rfl⟩
            replace H : (if bq32 = true then (impl_SlabOk.l1 k2 (l0_1.length : Int) x4_1 x7_2 (l0_1.length : Int) (wrap64 (x45_2 + 1)) a0_0 l0_1) else ((impl_Slab_chain.f k2 a0_0 l0_1 x45_2).bind fun t140 => (impl_SlabOk.l1 k2 (l0_1.length : Int) x4_1 (wrap64 (x7_2 + (t140.length : Int))) (l0_1.length : Int) (wrap64 (x45_2 + 1)) a0_0 l0_1))) = some r := by rw [← hbq32] at H; exact H
            have Nbq32 := Aside0.mk hbq32
            clear hbq32
            by_cases c33 : bq32 = true
            ·subst c33
             have H1 : (impl_SlabOk.l1 k2 (l0_1.length : Int) x4_1 x7_2 (l0_1.length : Int) (wrap64 (x45_2 + 1)) a0_0 l0_1) = some r := by rw [if_pos rfl] at H; exact H
             clear H
             have H := H1
             clear H1
             have H' := Aside0.mk H
             clear H
             obtain ⟨Ao34, co34, eo34⟩ := Kd.R_slice HO_4.out
             subst eo34
             have p139 : 0 ≤ (x45_2 : Int) := od_
             have q139 : x45_2 < (x4_1.length : Int) := od_
             obtain ⟨ad139, e139, hx139_0⟩ := Kd.at_bool (Kd.R_reads' HO_4.out).2.2 x45_2 p139 q139
             (try rw [← Nbq32.out] at hx139_0)
             cases e139
             replace p139 := eq_true p139
             replace q139 := eq_true q139
             go_wp2
             go_roundg k2
             case measure => have := HK1.out; have := HK2.out; omega
             case rel => exact ⟨(x7_2), (wrap64 (x45_2 + 1)), (by first | rfl | (simp; done) | (simp [*]; done)), (by first | rfl | (simp; done) | (simp [*]; done)), H', ⟨by have := HK1.out; have := HK2.out; omega⟩, ⟨kr_ HO_4⟩, ⟨bk_ BK131⟩, ⟨bf_ HB⟩⟩
            ·replace c33 := Bool.eq_false_iff.mpr c33
             subst c33
             have H1 : ((impl_Slab_chain.f k2 a0_0 l0_1 x45_2).bind fun t140 => (impl_SlabOk.l1 k2 (l0_1.length : Int) x4_1 (wrap64 (x7_2 + (t140.length : Int))) (l0_1.length : Int) (wrap64 (x45_2 + 1)) a0_0 l0_1)) = some r := by rw [if_neg (show ¬ (false = true) by decide)] at H; exact H
             clear H
             have H := H1
             clear H1
             replace H := Option.bind_eq_some_iff.mp H
             obtain ⟨t140, A350, H⟩ := H
             replace H : (impl_SlabOk.l1 k2 (l0_1.length : Int) x4_1 (wrap64 (x7_2 + (t140.length : Int))) (l0_1.length : Int) (wrap64 (x45_2 + 1)) a0_0 l0_1) = some r := H
             have A35 := Aside0.mk A350
             clear A350
             have H' := Aside0.mk H
             clear H
             obtain ⟨Ao36, co36, eo36⟩ := Kd.R_slice HO_4.out
             subst eo36
             have p139 : 0 ≤ (x45_2 : Int) := od_
             have q139 : x45_2 < (x4_1.length : Int) := od_
             obtain ⟨ad139, e139, hx139_0⟩ := Kd.at_bool (Kd.R_reads' HO_4.out).2.2 x45_2 p139 q139
             (try rw [← Nbq32.out] at hx139_0)
             cases e139
             replace p139 := eq_true p139
             replace q139 := eq_true q139
             obtain ⟨hcz37_0, hcz37_1, hfz37_0, hfz37_1⟩ := bz2_ BK131
             go_wp2_with (first | ((with_reducible refine gc_ 51 rfl ?_); refine gl_ 56 Try.func51 #[.agg #[.int .i64 a0_0, .slice A0_1 l0_1.length c0_1], .int .i64 x45_2] ?_; (with_reducible refine (impl_Slab_chain.calls k2 a0_0 _ _ l0_1 x45_2 t140 _ ?side1 ?side2 A35.out).mono ?_); (case side1 => repeat (first | exact (Kd.C_below HR0_1.out HB.out) | (with_reducible refine Kd.C_alloc ?_ _) | (with_reducible refine Kd.C_drewN ?_ _) | (with_reducible refine Kd.C_drew ?_))); (case side2 => exact HC0_1.out); rintro e w38 ⟨v141, rfl, ho0, hb⟩; refine ⟨_, rfl, ?_⟩; replace HO_4 := Aside0.mk (Kd.R_below (kr_ HO_4) hb); have HO142 := Aside0.mk (Kd.R_lower ho0 (below_size (bf_ HB))); replace BK131 := bb_ BK131 hb; replace HB := Aside0.mk (below_step (bf_ HB) hb); (try clear hb); (try clear hb2); (try clear hk); (try clear hi); (try clear ho0); obtain ⟨Ao39, co39, eo39⟩ := Kd.R_slice HO142.out; subst eo39))
             go_roundg k2
             case measure => have := HK1.out; have := HK2.out; omega
             case rel => exact ⟨(wrap64 (x7_2 + (t140.length : Int))), (wrap64 (x45_2 + 1)), (by first | rfl | (simp; done) | (simp [*]; done)), (by first | rfl | (simp; done) | (simp [*]; done)), H', ⟨by have := HK1.out; have := HK2.out; omega⟩, ⟨kr_ HO_4⟩, ⟨bk_ BK131⟩, ⟨bf_ HB⟩⟩
           ·rw [if_neg c31] at H
            exact absurd H (by simp)
          ·rw [if_neg c30] at H
           exact absurd H (by simp)
         ·rw [if_neg c29] at H
          have c29b0 : decide (x45_2 < (l0_1.length : Int)) = false := decide_eq_false c29
          clear c29
          by_cases c40 : x7_2 = (l0_1.length : Int)
          ·rw [if_pos c40] at H
           have c40b0 : (x7_2 == (l0_1.length : Int)) = true := beq_iff_eq.mpr c40
           have c40b1 : (x7_2 != (l0_1.length : Int)) = false := bne_eq_false_iff_eq.mpr c40
           clear c40
           by_cases c41 : a0_0 = (-1)
           ·rw [if_pos c41] at H
            have c41b0 : (a0_0 == (-1)) = true := beq_iff_eq.mpr c41
            have c41b1 : (a0_0 != (-1)) = false := bne_eq_false_iff_eq.mpr c41
            clear c41
            obtain rfl := Option.some.inj H
            obtain ⟨hcz42_0, hcz42_1, hfz42_0, hfz42_1⟩ := bz2_ BK131
            go_wp2
            go_ret
            exact ⟨by first | rfl | (simp [errW_none, errW_some] <;> rfl) | (simp [*, errW_none, errW_some] <;> rfl), bf_ HB⟩
           ·rw [if_neg c41] at H
            have c41b0 : (a0_0 == (-1)) = false := beq_eq_false_iff_ne.mpr c41
            have c41b1 : (a0_0 != (-1)) = true := bne_iff_ne.mpr c41
            replace H := Option.bind_eq_some_iff.mp H
            obtain ⟨t143, A430, H⟩ := H
            replace H : (some t143) = some r := H
            have A43 := Aside0.mk A430
            clear A430
            obtain rfl := Option.some.inj H
            obtain ⟨hcz44_0, hcz44_1, hfz44_0, hfz44_1⟩ := bz2_ BK131
            go_wp2_with (first | (go_at_call 52; (with_reducible refine (impl_Slab_isHead.calls k2 a0_0 _ _ l0_1 a0_0 t143 _ ?side1 ?side2 A43.out).mono ?_); (case side1 => repeat (first | exact (Kd.C_below HR0_1.out HB.out) | (with_reducible refine Kd.C_alloc ?_ _) | (with_reducible refine Kd.C_drewN ?_ _) | (with_reducible refine Kd.C_drew ?_))); (case side2 => exact HC0_1.out); rintro e w45 ⟨rfl, hb⟩; replace HO_4 := Aside0.mk (Kd.R_below (kr_ HO_4) hb); replace BK131 := bb_ BK131 hb; replace HB := Aside0.mk (below_step (bf_ HB) hb); (try clear hb); (try clear hb2); (try clear hk); (try clear hi)))
            go_ret
            exact ⟨by first | rfl | (simp [errW_none, errW_some] <;> rfl) | (simp [*, errW_none, errW_some] <;> rfl), bf_ HB⟩
          ·rw [if_neg c40] at H
           have c40b0 : (x7_2 == (l0_1.length : Int)) = false := beq_eq_false_iff_ne.mpr c40
           have c40b1 : (x7_2 != (l0_1.length : Int)) = true := bne_iff_ne.mpr c40
           obtain rfl := Option.some.inj H
           go_wp2
           go_ret
           exact ⟨by first | rfl | (simp [errW_none, errW_some] <;> rfl) | (simp [*, errW_none, errW_some] <;> rfl), bf_ HB⟩
   ·rw [if_neg c6] at H
    exact absurd H (by simp)
  ·rw [if_neg c5] at H
   exact absurd H (by simp)

/-! ### impl_StoreOk: function 47 -/
def impl_StoreOk.f (k : Nat) (a0_0 : Int) (l0_1 : List Int) (l0_2 : List Int) : Option (Bool) := (impl_SlabOk.f k a0_0 l0_1).bind fun t145 => (if t145 = true then (some ((l0_2.length : Int) == (wrap64 (16 * (l0_1.length : Int))))) else (some false))
theorem impl_StoreOk.mono : ∀ a0 a1 a2 k, LeO (impl_StoreOk.f k a0 a1 a2) (impl_StoreOk.f (k + 1) a0 a1 a2) := by
 intro a0 a1 a2 k
 unfold impl_StoreOk.f
 repeat' first
   | (with_reducible exact impl_SlabOk.mono _ _ _)
   | (with_reducible exact LeO.refl _)
   | (with_reducible exact LeO.none _)
   | (with_reducible refine LeO.ite ?_ ?_)
   | (with_reducible refine LeO.bind ?_ (fun _ => ?_))
   | exact impl_SlabOk.mono _ _ _
   | exact LeO.none _
   | refine LeO.ite ?_ ?_
   | refine LeO.bind ?_ (fun _ => ?_)
set_option maxHeartbeats 8000000 in
set_option maxRecDepth 100000 in
theorem impl_StoreOk.calls (k : Nat) (a0_0 : Int) (A0_1 : Option Addr) (c0_1 : Nat) (l0_1 : List Int) (A0_2 : Option Addr) (c0_2 : Nat) (l0_2 : List Int) (r : Bool) (w : World) (hr0_1 : Kd.C (Kd.int .i64) w A0_1 l0_1.length l0_1) (hc0_1 : l0_1.length ≤ c0_1) (hr0_2 : Kd.C (Kd.int .u8) w A0_2 l0_2.length l0_2) (hc0_2 : l0_2.length ≤ c0_2) (h : impl_StoreOk.f k a0_0 l0_1 l0_2 = some r) :
  Calls Try.prog 47 #[.agg #[.int .i64 a0_0, .slice A0_1 l0_1.length c0_1, .slice A0_2 l0_2.length c0_2]] w fun e w' => e = .returned (.bool r) ∧ Below w.heap.size w w' := by
 have hu29 := Try.underlying29; have hu27 := Try.underlying27
 have HR0_1 := Aside0.mk hr0_1
 have HC0_1 := Aside0.mk hc0_1
 clear hr0_1 hc0_1
 have HR0_2 := Aside0.mk hr0_2
 have HC0_2 := Aside0.mk hc0_2
 clear hr0_2 hc0_2; have HB := Aside0.mk (Below.refl w.heap.size w)
 have H : ((impl_SlabOk.f k a0_0 l0_1).bind fun t145 => (if t145 = true then (some ((l0_2.length : Int) == (wrap64 (16 * (l0_1.length : Int))))) else (some false))) = some r := h
 clear h
 replace H := Option.bind_eq_some_iff.mp H
 obtain ⟨t145, A20, H⟩ := H
 replace H : (if t145 = true then (some ((l0_2.length : Int) == (wrap64 (16 * (l0_1.length : Int))))) else (some false)) = some r := H
 have A2 := Aside0.mk A20
 clear A20
 by_cases c3 : t145 = true
 ·subst c3
  have H1 : (some ((l0_2.length : Int) == (wrap64 (16 * (l0_1.length : Int))))) = some r := by rw [if_pos rfl] at H; exact H
  clear H
  have H := H1
  clear H1
  obtain rfl := Option.some.inj H
  go_enter Try.func47, Try.ntmps47
  go_wp2_with (first | ((with_reducible refine gd_ 1 rfl ?_); (try (refine gate_guard (by rfl) ?_; dsimp only)); refine bv_ 1 #[.int .i64 a0_0, .slice A0_1 l0_1.length c0_1, .slice A0_2 l0_2.length c0_2] 29 ?_; intro gb144 hg w4 hbox hb; have BK144 := Aside0.mk (hbox); have GW144 := gw_ HB hg; have GE144 := gw_ HB hg; replace HB := Aside0.mk (below_step (be_ HB) hb); clear hb hbox hg; obtain ⟨hcz5_0, hcz5_1, hcz5_2, hfz5_0, hfz5_1, hfz5_2⟩ := bz3_ BK144) | ((with_reducible refine gc_ 53 rfl ?_); refine gl_ 5 Try.func53 #[.agg #[.int .i64 a0_0, .slice A0_1 l0_1.length c0_1]] ?_; (with_reducible refine (impl_SlabOk.calls k a0_0 _ _ l0_1 true _ ?side1 ?side2 A2.out).mono ?_); (case side1 => repeat (first | exact (Kd.C_below HR0_1.out HB.out) | (with_reducible refine Kd.C_alloc ?_ _) | (with_reducible refine Kd.C_drewN ?_ _) | (with_reducible refine Kd.C_drew ?_))); (case side2 => exact HC0_1.out); rintro e w6 ⟨rfl, hb⟩; refine ⟨_, rfl, ?_⟩; replace BK144 := bb_ BK144 hb; replace HB := Aside0.mk (below_step (bf_ HB) hb); (try clear hb); (try clear hb2); (try clear hk); (try clear hi); obtain ⟨hcz7_0, hcz7_1, hcz7_2, hfz7_0, hfz7_1, hfz7_2⟩ := bz3_ BK144))
  go_ret
  exact ⟨by first | rfl | (simp [errW_none, errW_some] <;> rfl) | (simp [*, errW_none, errW_some] <;> rfl), bf_ HB⟩
 ·replace c3 := Bool.eq_false_iff.mpr c3
  subst c3
  have H1 : (some false) = some r := by rw [if_neg (show ¬ (false = true) by decide)] at H; exact H
  clear H
  have H := H1
  clear H1
  obtain rfl := Option.some.inj H
  go_enter Try.func47, Try.ntmps47
  go_wp2_with (first | ((with_reducible refine gd_ 1 rfl ?_); (try (refine gate_guard (by rfl) ?_; dsimp only)); refine bv_ 1 #[.int .i64 a0_0, .slice A0_1 l0_1.length c0_1, .slice A0_2 l0_2.length c0_2] 29 ?_; intro gb144 hg w8 hbox hb; have BK144 := Aside0.mk (hbox); have GW144 := gw_ HB hg; have GE144 := gw_ HB hg; replace HB := Aside0.mk (below_step (be_ HB) hb); clear hb hbox hg; obtain ⟨hcz9_0, hcz9_1, hcz9_2, hfz9_0, hfz9_1, hfz9_2⟩ := bz3_ BK144) | ((with_reducible refine gc_ 53 rfl ?_); refine gl_ 5 Try.func53 #[.agg #[.int .i64 a0_0, .slice A0_1 l0_1.length c0_1]] ?_; (with_reducible refine (impl_SlabOk.calls k a0_0 _ _ l0_1 false _ ?side1 ?side2 A2.out).mono ?_); (case side1 => repeat (first | exact (Kd.C_below HR0_1.out HB.out) | (with_reducible refine Kd.C_alloc ?_ _) | (with_reducible refine Kd.C_drewN ?_ _) | (with_reducible refine Kd.C_drew ?_))); (case side2 => exact HC0_1.out); rintro e w10 ⟨rfl, hb⟩; refine ⟨_, rfl, ?_⟩; replace BK144 := bb_ BK144 hb; replace HB := Aside0.mk (below_step (bf_ HB) hb); (try clear hb); (try clear hb2); (try clear hk); (try clear hi)))
  go_ret
  exact ⟨by first | rfl | (simp [errW_none, errW_some] <;> rfl) | (simp [*, errW_none, errW_some] <;> rfl), bf_ HB⟩

/-! ### slices_Clone_int_int: function 168 -/
def slices_Clone_int_int.f (l0 : List Int) : Option (List Int) := (some (([] : List Int) : List Int)).bind fun y146 => (if y146.length + l0.length < 17592186044416 then (some (y146 ++ l0)) else (none))
set_option maxHeartbeats 8000000 in
set_option maxRecDepth 100000 in
theorem slices_Clone_int_int.calls_some (A0 : Addr) (c0 : Nat) (l0 : List Int) (r : List Int) (w : World) (hr0 : Kd.C (Kd.int .i64) w (some A0) l0.length l0) (hc0 : l0.length ≤ c0) (h : slices_Clone_int_int.f l0 = some r) :
  Calls Try.prog 168 #[.slice (some A0) l0.length c0] w fun e w' => ∃ v0_ : Value, e = .returned (v0_) ∧ Kd.R (Kd.int .i64) 3 w' w.heap.size (fun _ => True) v0_ r ∧ Below w.heap.size w w' := by
 have hnil0_ := fun (W : World) (n c : Nat) => Lib.run_eql_slice_nil (P := Try.prog) W 25 3 (some A0) n c 0 0 Try.underlying25
 have HR0 := Aside0.mk hr0
 have HC0 := Aside0.mk hc0
 clear hr0 hc0; have HB := Aside0.mk (Below.refl w.heap.size w)
 have H : ((some (([] : List Int) : List Int)).bind fun y146 => (if y146.length + l0.length < 17592186044416 then (some (y146 ++ l0)) else (none))) = some r := h
 clear h
 obtain ⟨y146, hy146⟩ : ∃ y_ : List Int, y_ = (([] : List Int)) := ⟨_, rfl⟩
 replace H : (if y146.length + l0.length < 17592186044416 then (some (y146 ++ l0)) else (none)) = some r := by first | (rw [hy146]; with_reducible exact H) | (have H2_ := (Option.bind_some _ _).symm.trans H; rw [hy146]; with_reducible exact H2_) | (have H2_ := (Option.bind_some _ _).symm.trans H; with_reducible exact H2_) | with_reducible exact H | (rw [hy146]; exact H) | exact H
 have Ny146 := Aside0.mk hy146
 clear hy146
 by_cases c2 : y146.length + l0.length < 17592186044416
 ·rw [if_pos c2] at H
  have LMc2 := Aside0.mk c2
  clear c2
  obtain ⟨y149, hy149⟩ : ∃ y_ : List Int, y_ = (y146 ++ l0) := ⟨_, rfl⟩
  replace H : (some y149) = some r := by first | (rw [hy149]; with_reducible exact H) | (have H2_ := (Option.bind_some _ _).symm.trans H; rw [hy149]; with_reducible exact H2_) | (have H2_ := (Option.bind_some _ _).symm.trans H; with_reducible exact H2_) | with_reducible exact H | (rw [hy149]; exact H) | exact H
  have Ny149 := Aside0.mk hy149
  clear hy149
  obtain rfl := Option.some.inj H
  go_enter Try.func168, Try.ntmps168
  go_wp2_with (first | ((with_reducible refine gd_ 5 rfl ?_); refine Kd.R_lit (Kd.int .i64) _ 3 ?hg (N := 5) ?hd (xs := ([] : List Int)) (inner := []) (ok := fun _ => True) (okp := fun _ => True) ?hr ?hp (fun _ hk => by first | exact hk | grind) trivial (Below.refl _ _) (Nat.le_refl _) (by simp) ?_; (case hd => rfl); (case hg => rfl); (case hr => first | (go_simp; done) | (go_simp; rfl)); (case hp => exact (Reps.none _ _)); intro v147 w3 ho4 hb hg_ hnew_; clear hg_ hnew_; (first | rw [← Ny146.out] at ho4 | (simp only [Int.reduceToNat] at ho4; rw [← Ny146.out] at ho4)); have HO148 := Aside0.mk (Kd.R_lower ho4 (below_size (be_ HB))); replace HB := Aside0.mk (below_step (be_ HB) hb); clear hb ho4) | ((with_reducible refine gate_builtin (b := .append) (xs := #[.tmp 5, .tmp 6]) rfl ?_); at_builtin; refine Kd.R_append_rows (Kd.int .i64) (w0 := w) w.heap.size rfl (.tmp 5) (.tmp 6) 25 3 (.int .i64 0) 8 rfl Try.underlying25 info3 rfl (by decide) (by omega) v147 y146 l0 _ _ _ (fun _ => True) (fun _ => False) rfl rfl ?aO ?aR (fun _ _ h => h) (fun _ h => h.elim) ?aF ?aB ?aS ?aL ?_; (case aR => repeat (first | exact (Kd.C_below HR0.out HB.out) | (with_reducible refine Kd.C_alloc ?_ _) | (with_reducible refine Kd.C_drewN ?_ _) | (with_reducible refine Kd.C_drew ?_))); (case aB => exact (be_ HB)); (case aF => exact (fun _ _ => trivial)); (case aO => exact (kr_ HO148)); (case aS => exact (below_size (be_ HB))); (case aL => have := LMc2.out; omega); intro v150 w5 ho hb hg hat; rw [← Ny149.out] at ho; replace HB := Aside0.mk (hb); have HO151 := Aside0.mk (ho); clear HO148 ho hb hg hat))
  go_ret
  exact ⟨_, by first | rfl | (simp [errW_none, errW_some] <;> rfl) | (simp [*, errW_none, errW_some] <;> rfl), by (with_reducible repeat (first | apply Kd.R_alloc | apply Kd.R_drewN | apply Kd.R_drew)); exact HO151.out, be_ HB⟩
 ·rw [if_neg c2] at H
  exact absurd H (by simp)
set_option maxHeartbeats 8000000 in
set_option maxRecDepth 100000 in
theorem slices_Clone_int_int.calls (A0 : Option Addr) (c0 : Nat) (l0 : List Int) (r : List Int) (w : World) (hr0 : Kd.C (Kd.int .i64) w A0 l0.length l0) (hc0 : l0.length ≤ c0) (h : slices_Clone_int_int.f l0 = some r) :
  Calls Try.prog 168 #[.slice A0 l0.length c0] w fun e w' => ∃ v0_ : Value, e = .returned (v0_) ∧ Kd.R (Kd.int .i64) 3 w' w.heap.size (fun _ => True) v0_ r ∧ Below w.heap.size w w' := by
  cases A0 with
  | some a_ => exact slices_Clone_int_int.calls_some a_ c0 l0 r w hr0 hc0 h
  | none =>
    obtain rfl : l0 = [] := by
      rcases l0 with _ | ⟨x_, t_⟩
      · rfl
      · obtain ⟨ad_, h0_, _⟩ := hr0.2.2 (by simp)
        cases h0_
    obtain rfl : r = [] := by simpa [slices_Clone_int_int.f] using h.symm
    have hnil0_ := fun (W : World) (n c : Nat) => Lib.run_eql_slice_nil (P := Try.prog) W 25 3 none n c 0 0 Try.underlying25
    clear hr0 hc0 h
    go_enter Try.func168, Try.ntmps168
    go_wp2
    go_ret
    exact ⟨_, rfl, Kd.R_nil _ _ _ _ _, Below.refl _ _⟩

/-! ### impl_copySlab: function 117 -/
def impl_copySlab.f (a0_0 : Int) (l0_1 : List Int) : Option (Int × List Int) := (slices_Clone_int_int.f l0_1).bind fun t154 => (some (a0_0, t154))
set_option maxHeartbeats 8000000 in
set_option maxRecDepth 100000 in
theorem impl_copySlab.calls (a0_0 : Int) (A0_1 : Option Addr) (c0_1 : Nat) (l0_1 : List Int) (r1 : Int) (r2 : List Int) (w : World) (hr0_1 : Kd.C (Kd.int .i64) w A0_1 l0_1.length l0_1) (hc0_1 : l0_1.length ≤ c0_1) (h : impl_copySlab.f a0_0 l0_1 = some (r1, r2)) :
  Calls Try.prog 117 #[.agg #[.int .i64 a0_0, .slice A0_1 l0_1.length c0_1]] w fun e w' => ∃ v1_ : Value, e = .returned (.agg #[.int .i64 r1, v1_]) ∧ Kd.R (Kd.int .i64) 3 w' w.heap.size (fun _ => True) v1_ r2 ∧ Below w.heap.size w w' := by
 have hu27 := Try.underlying27
 have HR0_1 := Aside0.mk hr0_1
 have HC0_1 := Aside0.mk hc0_1
 clear hr0_1 hc0_1; have HB := Aside0.mk (Below.refl w.heap.size w)
 have H : ((slices_Clone_int_int.f l0_1).bind fun t154 => (some (a0_0, t154))) = some (r1, r2) := h
 clear h
 replace H := Option.bind_eq_some_iff.mp H
 obtain ⟨t154, A20, H⟩ := H
 replace H : (some (a0_0, t154)) = some (r1, r2) := H
 have A2 := Aside0.mk A20
 clear A20
 simp only [Option.some.injEq, Prod.mk.injEq] at H
 obtain ⟨rfl, rfl⟩ := H
 go_enter Try.func117, Try.ntmps117
 try go_wp2_with (first | ((with_reducible refine gd_ 1 rfl ?_); refine bv_ 1 #[.int .i64 a0_0, .slice A0_1 l0_1.length c0_1] 27 ?_; intro gb152 hg w3 hbox hb; have BK152 := Aside0.mk (hbox); have GW152 := gw_ HB hg; have GE152 := gw_ HB hg; replace HB := Aside0.mk (below_step (be_ HB) hb); clear hb hbox hg) | ((with_reducible refine gd_ 2 rfl ?_); refine bv_ 2 #[.int .i64 0, .slice none 0 0] 27 ?_; intro gb153 hg w4 hbox hb; have BK153 := Aside0.mk (hbox); have GW153 := gw_ HB hg; have GE153 := gw_ HB hg; replace HB := Aside0.mk (below_step (bf_ HB) hb); have NB152_153 := nl_ BK152 hg; have NB153_152 := ng_ BK152 hg; replace BK152 := bb_ BK152 hb; clear hb hbox hg))
 replace BK152 := Aside0.mk (blk_drew BK152.out); replace BK153 := Aside0.mk (blk_drew BK153.out); replace HB := Aside0.mk (below_drew1 HB.out)
 refine start_ (n := 7) (S := fun w' => cw_ w' gb152 0 (.int .i64 a0_0) ∧ cw_ w' gb152 1 (.slice A0_1 l0_1.length c0_1)) (ds := []) (bs 7 0) (by kernel_rfl) rfl rfl ⟨bt_ BK152 0, bt_ BK152 1⟩ (fun hHeld => ?_)
 generalize w4.drew = w5 at BK152 BK153 HB hHeld ⊢
 refine ps0_ 0 3 (bs 7 1) ?_
 refine ps0_ 2 5 #[oT,oF,oT,oF,oF,oF,oF] ?_
 refine tk0_ 1 4 (bs 7 3) hHeld ?_
 refine tk0_ 3 6 (bs 7 4) hHeld ?_
 refine on0_ 4 (some 7) (bs 7 5) (fun K hK => ?_)
 refine gs_ Try.func168 #[.slice A0_1 l0_1.length c0_1] ?_
 with_reducible refine (slices_Clone_int_int.calls _ _ l0_1 t154 _ ?side1 ?side2 A2.out).mono ?_
 (case side1 => repeat (first | exact (Kd.C_below HR0_1.out HB.out) | (with_reducible refine Kd.C_alloc ?_ _) | (with_reducible refine Kd.C_drewN ?_ _) | (with_reducible refine Kd.C_drew ?_)))
 (case side2 => exact HC0_1.out)
 rintro e w6 ⟨v155, rfl, ho0, hb⟩
 refine ⟨_, rfl, ?_⟩
 have HO156 := Aside0.mk (Kd.R_lower ho0 (below_size (bf_ HB))); replace BK152 := bb_ BK152 hb; replace BK153 := bb_ BK153 hb; replace HB := Aside0.mk (below_step (bf_ HB) hb); (try clear hb); (try clear hb2); (try clear hk); (try clear hi); (try clear ho0)
 obtain ⟨Ao7, co7, eo7⟩ := Kd.R_slice HO156.out
 (first | subst eo7 | (injection eo7 with f1_ f2_ f3_; have f4_ := f1_.symm; have f5_ := f3_.symm; clear f1_ f2_ f3_; subst f4_; subst f5_))
 refine hK.out _ _ ⟨bt_ BK152 0, bt_ BK152 1⟩ (fun hHeld => ?_)
 clear hK K
 refine norm_ (a' := ?_) ?_ ?_
 rotate_left
 ·show Act.put _ (some 7) _ = _
  simp only [Act.put, ls0_, ls1_, ls2_, i64_w, i32_w]
  rfl
 refine ps0_ 5 8 (bs 7 6) ?_
 refine on0_ 6 none (bs 7 7) (fun K hK => ?_)
 have hs8 := bc_ BK153 0 (.int .i64 0) rfl; have hfs8 := blk_frozen BK153.out 0; have hns8_0 := NB152_153.out; have hms8_0 := NB153_152.out; have hs9 := bc_ BK153 1 (.slice none 0 0) rfl; have hfs9 := blk_frozen BK153.out 1; have hns9_0 := NB152_153.out; have hms9_0 := NB153_152.out
 refine skip_ (w1 := ?_) (by rfl) rfl ?_ ?_
 rotate_left
 ·go_simp
  rfl
 refine hK.out _ _ ⟨(cf2_ NB152_153.out hHeld.1), (cf2_ NB152_153.out hHeld.2)⟩ (fun hHeld => ?_)
 clear hK K
 refine done_ (by kernel_rfl) ?_
 try go_wp2
 refine bodyPost_ret (results_cell_row rfl _ _ gb153 27 #[.int .i64 a0_0, .slice Ao7 t154.length co7] (0, 0) _ rfl (by (with_reducible repeat (first | refine blk_drewN ?_ _ | refine blk_drew ?_ | refine blk_alloc ?_ _)); refine blk_put (cs := #[.int .i64 a0_0, .slice none 0 0]) ?_ 1 _ rfl; (with_reducible repeat (first | refine blk_drewN ?_ _ | refine blk_drew ?_ | refine blk_alloc ?_ _)); refine blk_put (cs := #[.int .i64 0, .slice none 0 0]) ?_ 0 _ rfl; exact bk_ BK153) Try.underlying27 rfl (by kernel_rfl)) rfl ?_
 exact ⟨_, by first | rfl | (simp [errW_none, errW_some] <;> rfl) | (simp [*, errW_none, errW_some] <;> rfl), by (with_reducible repeat (first | apply Kd.R_alloc | apply Kd.R_drewN | apply Kd.R_drew)); exact Kd.R_mono (Kd.R_far (p := ⟨gb153, 1, none⟩) (Kd.R_far (p := ⟨gb153, 0, none⟩) (Kd.R_types HO156.out BK153.out (by decide)) (fun _ hk => by first | exact hk.2 | grind) (.int .i64 a0_0)) (fun _ hk => by first | exact hk.2 | grind) (.slice Ao7 t154.length co7)) (fun _ hk => by first | exact trivial | grind), bf_ HB⟩

end Go.Proofs.Ytlafobfjbkhioaa.PFnStoreBook
