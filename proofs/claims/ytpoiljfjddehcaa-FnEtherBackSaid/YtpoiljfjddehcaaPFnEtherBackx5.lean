-- printed by a program of this session (wip/printx) out of the translation; Lean checks it
import Derived.Test.YtpoiljfjddehcaaPFnEtherBackx0
import Derived.Test.YtpoiljfjddehcaaPFnEtherBackx4
namespace Go.Proofs.Ytpoiljfjddehcaa.PFnEtherBack
open Go.RowKit Go.Proofs.YtpoiljfjddehcaaW.PrintWords Go.Proofs.YtpoiljfjddehcaaW.PrintLast Go.Proofs.YtpoiljfjddehcaaW.PrintMore
attribute [local go_sem] max2_int min2_int max_two min_two max_three min_three max_four min_four   -- for this text's walks alone
set_option linter.unusedVariables false
set_option linter.unusedSimpArgs false

/-! ### impl_put: function 64 -/
def impl_put.l0 : Nat → Int → Int → List Int → Int → Int → Option (List Int)
  | 0, _, _, _, _, _ => none
  | k + 1, x0, x1, x5, x10, x11 => if x11 < x10 then (if 0 ≤ (wrap64 (8 * (wrap64 ((wrap64 (x1 - 1)) - x11)))) then (if 0 ≤ x11 then (if x11 < (x5.length : Int) then (impl_put.l0 k x0 x1 (x5.set (x11 : Int).toNat ((shr .i64 x0 (wrap64 (8 * (wrap64 ((wrap64 (x1 - 1)) - x11))))) % 256)) x10 (wrap64 (x11 + 1))) else (none)) else (none)) else (none)) else (some x5)
def impl_put.f (k : Nat) (a0 : Int) (a1 : Int) : Option (List Int) := if 0 ≤ a1 then (if (a1 : Int).toNat ≤ 281474976710656 then ((some (List.replicate (a1 : Int).toNat 0 : List Int)).bind fun y265 => (impl_put.l0 k a0 a1 y265 (y265.length : Int) 0)) else (none)) else (none)
theorem impl_put.mono_l : ∀ k, (∀ y0 y1 y2 y3 y4, LeO (impl_put.l0 k y0 y1 y2 y3 y4) (impl_put.l0 (k + 1) y0 y1 y2 y3 y4))
 | 0 => fun _ _ _ _ _ r h => by simp [impl_put.l0] at h
 | k + 1 => by
  have ih0 := impl_put.mono_l k
  ·intro y0 y1 y2 y3 y4
   unfold impl_put.l0
   repeat' first
   | (with_reducible exact ih0 _ _ _ _ _)
   | (with_reducible exact LeO.refl _)
   | (with_reducible exact LeO.none _)
   | (with_reducible refine LeO.ite ?_ ?_)
   | (with_reducible refine LeO.bind ?_ (fun _ => ?_))
   | exact ih0 _ _ _ _ _
   | exact LeO.none _
   | refine LeO.ite ?_ ?_
   | refine LeO.bind ?_ (fun _ => ?_)
theorem impl_put.mono : ∀ a0 a1 k, LeO (impl_put.f k a0 a1) (impl_put.f (k + 1) a0 a1) := by
 intro a0 a1 k
 have ih0 := impl_put.mono_l k
 unfold impl_put.f
 repeat' first
   | (with_reducible exact ih0 _ _ _ _ _)
   | (with_reducible exact LeO.refl _)
   | (with_reducible exact LeO.none _)
   | (with_reducible refine LeO.ite ?_ ?_)
   | (with_reducible refine LeO.bind ?_ (fun _ => ?_))
   | exact ih0 _ _ _ _ _
   | exact LeO.none _
   | refine LeO.ite ?_ ?_
   | refine LeO.bind ?_ (fun _ => ?_)
set_option maxHeartbeats 8000000 in
set_option maxRecDepth 100000 in
theorem impl_put.calls (k : Nat) (a0 : Int) (a1 : Int) (r : List Int) (w : World) (h : impl_put.f k a0 a1 = some r) :
  Calls Try.prog 64 #[.int .i64 a0, .int .i64 a1] w fun e w' => ∃ v0_ : Value, e = .returned (v0_) ∧ Kd.R (Kd.int .u8) 5 w' w.heap.size (fun _ => True) v0_ r ∧ Below w.heap.size w w' := by
 have HB := Aside0.mk (Below.refl w.heap.size w)
 have H : (if 0 ≤ a1 then (if (a1 : Int).toNat ≤ 281474976710656 then ((some (List.replicate (a1 : Int).toNat 0 : List Int)).bind fun y265 => (impl_put.l0 k a0 a1 y265 (y265.length : Int) 0)) else (none)) else (none)) = some r := h
 clear h
 by_cases c3 : 0 ≤ a1
 ·rw [if_pos c3] at H
  have c3b0 := eq_true c3
  have c3b1 : decide (0 ≤ a1) = true := decide_eq_true c3
  clear c3
  by_cases c4 : (a1 : Int).toNat ≤ 281474976710656
  ·rw [if_pos c4] at H
   have c4b0 := eq_true c4
   have c4b1 : decide ((a1 : Int).toNat ≤ 281474976710656) = true := decide_eq_true c4
   clear c4
   obtain ⟨y265, hy265⟩ : ∃ y_ : List Int, y_ = (List.replicate (a1 : Int).toNat 0) := ⟨_, rfl⟩
   replace H : (impl_put.l0 k a0 a1 y265 (y265.length : Int) 0) = some r := by first | (rw [hy265]; with_reducible exact H) | (have H2_ := (Option.bind_some _ _).symm.trans H; rw [hy265]; with_reducible exact H2_) | (have H2_ := (Option.bind_some _ _).symm.trans H; with_reducible exact H2_) | with_reducible exact H | (rw [hy265]; exact H) | exact H
   have Ny265 := Aside0.mk hy265
   clear hy265
   have H' := Aside0.mk H
   clear H
   go_enter Try.func64, Try.ntmps64
   go_wp2_with (first | ((with_reducible refine gate_dst (N := 8) rfl ?_); refine Kd.R_make (Kd.int .u8) _ 5 rfl (N := 8) rfl 22 _ _ rfl a1 rfl rfl Try.underlying22 (.int .u8 0) 1 info5 rfl (by decide) (by omega) 0 (ok := fun _ => True) (okp := fun _ => True) rfl (fun _ hk => by first | exact hk | grind) trivial (of_decide_eq_true (by first | (with_reducible assumption) | assumption)) (Nat.le_trans (Nat.mul_le_mul_right _ (of_decide_eq_true (by first | (with_reducible assumption) | assumption) : a1.toNat ≤ 281474976710656)) (by omega)) (Below.refl _ _) (Nat.le_refl _) ?_; intro v266 w5 ho6 hb hg_ hnew_; clear hg_ hnew_; (first | rw [← Ny265.out] at ho6 | (simp only [Int.reduceToNat] at ho6; rw [← Ny265.out] at ho6)); have n0_ := Aside0.mk (Kd.R_lower ho6 (below_size (be_ HB))); have n1_ := Aside0.mk (below_step (be_ HB) hb); clear HB; have HO267 := n0_; have HB := n1_; clear n0_ n1_; clear hb ho6; obtain ⟨Ao7, co7, eo7⟩ := Kd.R_slice HO267.out; subst eo7))
   go_loopg [11] k (fun kq v11 w' => ∃ (x5_1 : List Int) (x11_1 : Int), v11 = .int .i64 x11_1 ∧ Aside0 (impl_put.l0 kq a0 a1 x5_1 (y265.length : Int) x11_1 = some r) ∧ Aside0 (kq ≤ k) ∧ Aside0 (Kd.R (Kd.int .u8) 5 w' w.heap.size (fun _ => True) (.slice Ao7 y265.length co7) x5_1) ∧ Aside0 (Below w.heap.size w w'))
   case atStart => exact ⟨(y265), (0), (by first | rfl | (simp; done) | (simp [*]; done)), H', ⟨Nat.le_refl _⟩, ⟨kr_ HO267⟩, ⟨be_ HB⟩⟩
   case round =>
    clear H'
    (try clear p2); (try clear c3); (try clear c3b0); (try clear c3b1); (try clear c4); (try clear c4b0); (try clear c4b1); (try clear c6)
    obtain ⟨x5_1, x11_1, rfl, HA, HK1, HO_5, HB⟩ := hrel
    have hl5_1 := (Kd.R_reads' HO_5.out).1
    rw [hl5_1] at HO_5
    (try simp only [hl5_1])
    cases gk with
    | zero => exact absurd HA.out (by simp [impl_put.l0])
    | succ k1 =>
     have H := HA.out
     clear HA
     simp only [impl_put.l0] at H
     by_cases c8 : x11_1 < (y265.length : Int)
     ·rw [if_pos c8] at H
      have c8b0 : decide (x11_1 < (y265.length : Int)) = true := decide_eq_true c8
      have c8b0l := c8b0
      (try simp only [hl5_1] at c8b0l)
      clear c8
      obtain ⟨ji9, hji9⟩ : ∃ j_ : Int, (wrap64 (8 * (wrap64 ((wrap64 (a1 - 1)) - x11_1)))) = j_ := ⟨_, rfl⟩
      replace H : (if 0 ≤ (ji9) then (if 0 ≤ x11_1 then (if x11_1 < (x5_1.length : Int) then (impl_put.l0 k1 a0 a1 (x5_1.set (x11_1 : Int).toNat ((shr .i64 a0 (ji9)) % 256)) (y265.length : Int) (wrap64 (x11_1 + 1))) else (none)) else (none)) else (none)) = some r := by first | (rw [hji9] at H; exact H) | (simp only [hji9] at H ⊢; exact H)
      have hji9w : (IntKind.i64.wrap (8 * (wrap64 ((wrap64 (a1 - 1)) - x11_1)))) = ji9 := (i64_w _).trans hji9
      by_cases c10 : 0 ≤ (ji9)
      ·rw [if_pos c10] at H
       have c10b0 := eq_true c10
       have c10b1 : decide (0 ≤ (ji9)) = true := decide_eq_true c10
       clear c10
       obtain ⟨ji11, hji11⟩ : ∃ j_ : Int, (shr .i64 a0 (ji9)) = j_ := ⟨_, rfl⟩
       replace H : (if 0 ≤ x11_1 then (if x11_1 < (x5_1.length : Int) then (impl_put.l0 k1 a0 a1 (x5_1.set (x11_1 : Int).toNat ((ji11) % 256)) (y265.length : Int) (wrap64 (x11_1 + 1))) else (none)) else (none)) = some r := by first | (rw [hji11] at H; exact H) | (simp only [hji11] at H ⊢; exact H)
       have hji11_ : (a0 / 2 ^ min (ji9).toNat 64) = ji11 := hji11
       have hji11z : (ji9) ≤ 64 → (a0 / 2 ^ (ji9).toNat) = ji11 := shr_small hji11
       by_cases c12 : 0 ≤ x11_1
       ·rw [if_pos c12] at H
        have c12b0 : decide (0 ≤ x11_1) = true := decide_eq_true c12
        have c12b0l := c12b0
        (try simp only [hl5_1] at c12b0l)
        clear c12
        by_cases c13 : x11_1 < (x5_1.length : Int)
        ·rw [if_pos c13] at H
         have c13b0 : decide (x11_1 < (x5_1.length : Int)) = true := decide_eq_true c13
         have c13b0l := c13b0
         (try simp only [hl5_1] at c13b0l)
         clear c13
         obtain ⟨y268, hy268⟩ : ∃ y_ : List Int, y_ = (x5_1.set (x11_1 : Int).toNat ((ji11) % 256)) := ⟨_, rfl⟩
         replace H : (impl_put.l0 k1 a0 a1 y268 (y265.length : Int) (wrap64 (x11_1 + 1))) = some r := by first | (rw [hy268]; with_reducible exact H) | (have H2_ := (Option.bind_some _ _).symm.trans H; rw [hy268]; with_reducible exact H2_) | (have H2_ := (Option.bind_some _ _).symm.trans H; with_reducible exact H2_) | with_reducible exact H | (rw [hy268]; exact H) | exact H
         have Ny268 := Aside0.mk hy268
         clear hy268
         have H' := Aside0.mk H
         clear H
         have p14 : 0 ≤ (x11_1 : Int) := of_decide_eq_true (by first | (with_reducible assumption) | assumption)
         have q14 : (x11_1 : Int) < ((x5_1.length : Int) : Int) := of_decide_eq_true (by first | (with_reducible assumption) | assumption)
         obtain ⟨go14, co14, eo14, gb14, gl14, cl14, HG14⟩ := Kd.R_form HO_5.out (by omega)
         (first | cases eo14 | (injection eo14 with ea_ en_ ec_; (first | subst ea_ | (injection ea_ with ea_; subst ea_)); subst ec_; clear en_))
         have GB14 := Aside0.mk gb14
         have GG14 := Aside0.mk HG14
         clear gb14 gl14 HG14
         obtain ⟨hx14_0, hf14_0⟩ := Kd.R_celln 0 HO_5.out (x11_1 : Int) p14 q14
         replace p14 := eq_true p14
         replace q14 := eq_true q14
         have HP15 := Kd.R_putg HO_5.out (x11_1 : Int) ((ji11) % 256)
         go_wp2_with (first | ((with_reducible refine gate_store (t := 5) (p := 24) rfl ?_); refine store_event (t := 5) (p := 24) (v := ?vo_w16) (w1 := (wr.setCell ⟨go14, (x11_1 : Int).toNat, none⟩ (.int .u8 ((ji11) % 256)))) ?hg ?ho ?hn ?hr ?_; (case ho => rfl); (case hg => rfl); (case hn => rfl); (case hr => first | (go_simp; done) | (go_simp; rfl)); intro w16 hw; have hg : wr.grownBy w16 (some go14) := (by rw [hw]; exact HP15.2); have hp_ : Kd.R (Kd.int .u8) 5 w16 w.heap.size (fun _ => True) (.slice (some ⟨go14, 0, none⟩) x5_1.length co7) y268 := (by rw [hw, Ny268.out]; exact HP15.1); clear HP15; have n0_ := Aside0.mk (hp_); have n1_ := Aside0.mk ((by rw [hw]; exact below_set (HB.out) GB14.out : Below w.heap.size w w16)); clear HO_5; clear HB; have HO_5 := n0_; have HB := n1_; clear n0_ n1_; clear hg hw hp_))
         (try simp only [← hl5_1])
         go_roundg k1
         case measure => have := HK1.out; omega
         case rel => exact ⟨(y268), (wrap64 (x11_1 + 1)), (by first | rfl | (simp; done) | (simp [*]; done)), H', ⟨by have := HK1.out; omega⟩, ⟨by (try simp only [hl5_1]); exact kr_ HO_5⟩, ⟨be_ HB⟩⟩
        ·rw [if_neg c13] at H
         exact absurd H (by simp)
       ·rw [if_neg c12] at H
        exact absurd H (by simp)
      ·rw [if_neg c10] at H
       exact absurd H (by simp)
     ·rw [if_neg c8] at H
      have c8b0 : decide (x11_1 < (y265.length : Int)) = false := decide_eq_false c8
      have c8b0l := c8b0
      (try simp only [hl5_1] at c8b0l)
      clear c8
      obtain rfl := Option.some.inj H
      go_wp2
      go_ret
      exact ⟨_, by first | rfl | (simp [errW_none, errW_some] <;> rfl) | (simp [*, errW_none, errW_some] <;> rfl), by (with_reducible repeat (first | apply Kd.R_alloc | apply Kd.R_drewN | apply Kd.R_drew)); exact HO_5.out, be_ HB⟩
  ·rw [if_neg c4] at H
   exact absurd H (by simp)
 ·rw [if_neg c3] at H
  exact absurd H (by simp)

/-! ### impl_Put16: function 63 -/
def impl_Put16.f (k : Nat) (a0 : Int) : Option (List Int) := (impl_put.f k a0 2).bind fun t269 => (some t269)
theorem impl_Put16.mono : ∀ a0 k, LeO (impl_Put16.f k a0) (impl_Put16.f (k + 1) a0) := by
 intro a0 k
 unfold impl_Put16.f
 repeat' first
   | (with_reducible exact impl_put.mono _ _ _)
   | (with_reducible exact LeO.refl _)
   | (with_reducible exact LeO.none _)
   | (with_reducible refine LeO.ite ?_ ?_)
   | (with_reducible refine LeO.bind ?_ (fun _ => ?_))
   | exact impl_put.mono _ _ _
   | exact LeO.none _
   | refine LeO.ite ?_ ?_
   | refine LeO.bind ?_ (fun _ => ?_)
set_option maxHeartbeats 8000000 in
set_option maxRecDepth 100000 in
theorem impl_Put16.calls (k : Nat) (a0 : Int) (r : List Int) (w : World) (h : impl_Put16.f k a0 = some r) :
  Calls Try.prog 63 #[.int .i64 a0] w fun e w' => ∃ v0_ : Value, e = .returned (v0_) ∧ Kd.R (Kd.int .u8) 5 w' w.heap.size (fun _ => True) v0_ r ∧ Below w.heap.size w w' := by
 have HB := Aside0.mk (Below.refl w.heap.size w)
 have H : ((impl_put.f k a0 2).bind fun t269 => (some t269)) = some r := h
 clear h
 replace H := Option.bind_eq_some_iff.mp H
 obtain ⟨t269, A20, H⟩ := H
 replace H : (some t269) = some r := H
 have A2 := Aside0.mk A20
 clear A20
 obtain rfl := Option.some.inj H
 go_enter Try.func63, Try.ntmps63
 go_wp2_with (first | ((with_reducible refine gate_callee (f := 64) rfl ?_); refine goesL_ (some 4) rfl rfl Try.func64 (by kernel_rfl) rfl #[.int .i64 a0, .int .i64 2] rfl mt_ ?_; (with_reducible refine (impl_put.calls k a0 2 t269 _ A2.out).mono ?_); rintro e w3 ⟨v270, rfl, ho0, hb⟩; refine ⟨_, rfl, ?_⟩; have n0_ := Aside0.mk (Kd.R_lower ho0 (below_size (be_ HB))); have n1_ := Aside0.mk (below_step (be_ HB) hb); clear HB; have HO271 := n0_; have HB := n1_; clear n0_ n1_; (try clear hb); (try clear hb2); (try clear hk); (try clear hi); (try clear ho0)))
 go_ret
 exact ⟨_, by first | rfl | (simp [errW_none, errW_some] <;> rfl) | (simp [*, errW_none, errW_some] <;> rfl), by (with_reducible repeat (first | apply Kd.R_alloc | apply Kd.R_drewN | apply Kd.R_drew)); exact HO271.out, be_ HB⟩

/-! ### impl_EtherBytes: function 14 -/
def impl_EtherBytes.j0 : Nat → List Int → Int → Int → Int → Int → List Int → Option (List Int)
  | 0, _, _, _, _, _, _ => none
  | k + 1, x3, x273000, x273001, x273002, x273003, x273004 => (impl_put.f k x273000 6).bind fun t289 => ((impl_put.f k x273001 6).bind fun t292 => ((impl_Put16.f k x273003).bind fun t295 => ((slices_Concat_byte_byte.f k (([t289, t292, x3, t295, x273004] : List (List Int)))).bind fun t301 => (some t301))))
def impl_EtherBytes.f (k : Nat) (a0_0 : Int) (a0_1 : Int) (a0_2 : Int) (a0_3 : Int) (l0_4 : List Int) : Option (List Int) := (impl_EtherOk.f a0_0 a0_1 a0_2 a0_3 l0_4).bind fun t273 => (if t273 = true then (if a0_2 ≥ 0 then ((impl_Put16.f k 33024).bind fun t277 => ((impl_Put16.f k a0_2).bind fun t280 => ((slices_Concat_byte_byte.f k (([t277, t280] : List (List Int)))).bind fun t286 => (impl_EtherBytes.j0 k t286 a0_0 a0_1 a0_2 a0_3 l0_4)))) else (impl_EtherBytes.j0 k (([] : List Int)) a0_0 a0_1 a0_2 a0_3 l0_4)) else (some ([] : List Int)))
theorem impl_EtherBytes.mono_l : ∀ k, (∀ y0 y1 y2 y3 y4 y5, LeO (impl_EtherBytes.j0 k y0 y1 y2 y3 y4 y5) (impl_EtherBytes.j0 (k + 1) y0 y1 y2 y3 y4 y5))
 | 0 => fun _ _ _ _ _ _ r h => by simp [impl_EtherBytes.j0] at h
 | k + 1 => by
  have ih0 := impl_EtherBytes.mono_l k
  ·intro y0 y1 y2 y3 y4 y5
   unfold impl_EtherBytes.j0
   repeat' first
   | (with_reducible exact ih0 _ _ _ _ _ _)
   | (with_reducible exact impl_Put16.mono _ _)
   | (with_reducible exact impl_put.mono _ _ _)
   | (with_reducible exact slices_Concat_byte_byte.mono _ _)
   | (with_reducible exact LeO.refl _)
   | (with_reducible exact LeO.none _)
   | (with_reducible refine LeO.ite ?_ ?_)
   | (with_reducible refine LeO.bind ?_ (fun _ => ?_))
   | exact ih0 _ _ _ _ _ _
   | exact impl_Put16.mono _ _
   | exact impl_put.mono _ _ _
   | exact slices_Concat_byte_byte.mono _ _
   | exact LeO.none _
   | refine LeO.ite ?_ ?_
   | refine LeO.bind ?_ (fun _ => ?_)
theorem impl_EtherBytes.mono : ∀ a0 a1 a2 a3 a4 k, LeO (impl_EtherBytes.f k a0 a1 a2 a3 a4) (impl_EtherBytes.f (k + 1) a0 a1 a2 a3 a4) := by
 intro a0 a1 a2 a3 a4 k
 have ih0 := impl_EtherBytes.mono_l k
 unfold impl_EtherBytes.f
 repeat' first
   | (with_reducible exact ih0 _ _ _ _ _ _)
   | (with_reducible exact impl_Put16.mono _ _)
   | (with_reducible exact impl_put.mono _ _ _)
   | (with_reducible exact slices_Concat_byte_byte.mono _ _)
   | (with_reducible exact LeO.refl _)
   | (with_reducible exact LeO.none _)
   | (with_reducible refine LeO.ite ?_ ?_)
   | (with_reducible refine LeO.bind ?_ (fun _ => ?_))
   | exact ih0 _ _ _ _ _ _
   | exact impl_Put16.mono _ _
   | exact impl_put.mono _ _ _
   | exact slices_Concat_byte_byte.mono _ _
   | exact LeO.none _
   | refine LeO.ite ?_ ?_
   | refine LeO.bind ?_ (fun _ => ?_)
def impl_EtherBytes.T6 : Bool × List (List Nat × List Nat) := (true, [([], []), ([0], [0]), ([1], [1]), ([], []), ([3], [3]), ([4, 2], [4]), ([], []), ([], []), ([7], [7]), ([8, 5], [8]), ([], []), ([10], [10]), ([2, 5, 6, 9, 11], [2, 5, 6, 9, 11]), ([12, 9], [12]), ([13, 13, 0, 1, 2, 3, 4, 5, 6, 7, 8, 9, 10, 11, 12, 13], [13])])
def impl_EtherBytes.B6 : List Nat := [0, 1, 3, 0, 8, 31, 0, 0, 128, 447, 0, 1024, 4095, 8191, 16383]
theorem impl_EtherBytes.tab6 : rtab .any (opsOf Try.f14 6) = impl_EtherBytes.T6 := by kernel_rfl
theorem impl_EtherBytes.bits6 : waitsOk impl_EtherBytes.T6.2 impl_EtherBytes.B6 = true := by kernel_rfl
set_option maxHeartbeats 8000000 in
set_option maxRecDepth 100000 in
theorem impl_EtherBytes.calls (k : Nat) (a0_0 : Int) (a0_1 : Int) (a0_2 : Int) (a0_3 : Int) (P0_4_ : Nat → Prop) (A0_4 : Option Addr) (c0_4 : Nat) (l0_4 : List Int) (r : List Int) (w : World) (hs0_4 : Kd.V (Kd.int .u8) 5 w w.heap.size (fun k_ => P0_4_ k_) (.slice A0_4 l0_4.length c0_4) l0_4) (h : impl_EtherBytes.f k a0_0 a0_1 a0_2 a0_3 l0_4 = some r) :
  Calls Try.prog 14 #[.agg #[.int .i64 a0_0, .int .i64 a0_1, .int .i64 a0_2, .int .i64 a0_3, .slice A0_4 l0_4.length c0_4]] w fun e w' => ∃ v0_ : Value, e = .returned (v0_) ∧ Kd.R (Kd.int .u8) 5 w' w.heap.size (fun k_ => (w.heap.size ≤ k_)) v0_ r ∧ Below w.heap.size w w' := by
 have hu32 := Try.underlying32
 have HO0_4 := Aside0.mk (show Kd.V (Kd.int .u8) 5 w w.heap.size (fun k_ => (P0_4_ k_ ∨ w.heap.size ≤ k_)) (.slice A0_4 l0_4.length c0_4) l0_4 from Kd.V_mono hs0_4 (fun k_ hk => by first | exact .inl hk | grind))
 have HB := Aside0.mk (Below.refl w.heap.size w)
 have H : ((impl_EtherOk.f a0_0 a0_1 a0_2 a0_3 l0_4).bind fun t273 => (if t273 = true then (if a0_2 ≥ 0 then ((impl_Put16.f k 33024).bind fun t277 => ((impl_Put16.f k a0_2).bind fun t280 => ((slices_Concat_byte_byte.f k (([t277, t280] : List (List Int)))).bind fun t286 => (impl_EtherBytes.j0 k t286 a0_0 a0_1 a0_2 a0_3 l0_4)))) else (impl_EtherBytes.j0 k (([] : List Int)) a0_0 a0_1 a0_2 a0_3 l0_4)) else (some ([] : List Int)))) = some r := h
 clear h
 replace H := Option.bind_eq_some_iff.mp H
 obtain ⟨t273, A20, H⟩ := H
 replace H : (if t273 = true then (if a0_2 ≥ 0 then ((impl_Put16.f k 33024).bind fun t277 => ((impl_Put16.f k a0_2).bind fun t280 => ((slices_Concat_byte_byte.f k (([t277, t280] : List (List Int)))).bind fun t286 => (impl_EtherBytes.j0 k t286 a0_0 a0_1 a0_2 a0_3 l0_4)))) else (impl_EtherBytes.j0 k (([] : List Int)) a0_0 a0_1 a0_2 a0_3 l0_4)) else (some ([] : List Int))) = some r := H
 have A2 := Aside0.mk A20
 clear A20
 by_cases c3 : t273 = true
 ·subst c3
  have H1 : (if a0_2 ≥ 0 then ((impl_Put16.f k 33024).bind fun t277 => ((impl_Put16.f k a0_2).bind fun t280 => ((slices_Concat_byte_byte.f k (([t277, t280] : List (List Int)))).bind fun t286 => (impl_EtherBytes.j0 k t286 a0_0 a0_1 a0_2 a0_3 l0_4)))) else (impl_EtherBytes.j0 k (([] : List Int)) a0_0 a0_1 a0_2 a0_3 l0_4)) = some r := by rw [if_pos rfl] at H; exact H
  clear H
  have H := H1
  clear H1
  obtain ⟨y274, hy274⟩ : ∃ y_ : List Int, y_ = (([] : List Int)) := ⟨_, rfl⟩
  replace H : (if a0_2 ≥ 0 then ((impl_Put16.f k 33024).bind fun t277 => ((impl_Put16.f k a0_2).bind fun t280 => ((slices_Concat_byte_byte.f k (([t277, t280] : List (List Int)))).bind fun t286 => (impl_EtherBytes.j0 k t286 a0_0 a0_1 a0_2 a0_3 l0_4)))) else (impl_EtherBytes.j0 k y274 a0_0 a0_1 a0_2 a0_3 l0_4)) = some r := by first | (rw [hy274]; with_reducible exact H) | (have H2_ := (Option.bind_some _ _).symm.trans H; rw [hy274]; with_reducible exact H2_) | (have H2_ := (Option.bind_some _ _).symm.trans H; with_reducible exact H2_) | with_reducible exact H | (rw [hy274]; exact H) | exact H
  have Ny274 := Aside0.mk hy274
  clear hy274
  have HC4 := Aside0.mk H
  clear H
  go_enter Try.func14, Try.ntmps14
  go_upto_if 10 with (first | ((with_reducible refine gate_dst (N := 1) rfl ?_); refine box_event ?hg (N := 1) ?hd (cs := #[.int .i64 a0_0, .int .i64 a0_1, .int .i64 a0_2, .int .i64 a0_3, .slice A0_4 l0_4.length c0_4]) (t := 32) ?hr ?_; (case hd => rfl); (case hg => rfl); (case hr => first | (go_simp; done) | (go_simp; rfl)); intro gb272 hg w5 hbox hb; have n0_ := Aside0.mk (Kd.V_below (Kd.V_elderB (by (with_reducible repeat (first | apply Kd.V_alloc | apply Kd.V_drewN | apply Kd.V_drew)); exact HO0_4.out) gb272 (Nat.le_of_eq hg.symm)) hb); have n1_ := Aside0.mk (below_step (be_ HB) hb); have n2_ := Aside0.mk (hbox); have n3_ := gw_ HB hg; have n4_ := gw_ HB hg; clear HO0_4; clear HB; have HO0_4 := n0_; have HB := n1_; have BK272 := n2_; have GW272 := n3_; have GE272 := n4_; clear n0_ n1_ n2_ n3_ n4_; clear hb hbox hg; have hcz6_0 := bc_ BK272 0 (.int .i64 a0_0) rfl; have hcz6_1 := bc_ BK272 1 (.int .i64 a0_1) rfl; have hcz6_2 := bc_ BK272 2 (.int .i64 a0_2) rfl; have hcz6_3 := bc_ BK272 3 (.int .i64 a0_3) rfl; have hcz6_4 := bc_ BK272 4 (.slice A0_4 l0_4.length c0_4) rfl; have hfz6_0 := blk_frozen BK272.out 0; have hfz6_1 := blk_frozen BK272.out 1; have hfz6_2 := blk_frozen BK272.out 2; have hfz6_3 := blk_frozen BK272.out 3; have hfz6_4 := blk_frozen BK272.out 4) | ((with_reducible refine gate_callee (f := 61) rfl ?_); refine goesL_ (some 5) rfl rfl Try.func61 (by kernel_rfl) rfl #[.agg #[.int .i64 a0_0, .int .i64 a0_1, .int .i64 a0_2, .int .i64 a0_3, .slice A0_4 l0_4.length c0_4]] rfl mt_ ?_; (with_reducible refine (impl_EtherOk.calls a0_0 a0_1 a0_2 a0_3 _ _ l0_4 true _ ?side1 ?side2 A2.out).mono ?_); (case side1 => repeat (first | exact (Kd.V_reads' HO0_4.out).2.2 | (with_reducible refine Kd.C_alloc ?_ _) | (with_reducible refine Kd.C_drewN ?_ _) | (with_reducible refine Kd.C_drew ?_))); (case side2 => exact (Kd.V_reads' HO0_4.out).2.1); rintro e w7 ⟨rfl, hb⟩; refine ⟨_, rfl, ?_⟩; have n0_ := Aside0.mk (Kd.V_below (by (with_reducible repeat (first | apply Kd.V_alloc | apply Kd.V_drewN | apply Kd.V_drew)); exact HO0_4.out) hb); have n1_ := bb_ BK272 hb; have n2_ := Aside0.mk (below_step (bf_ HB) hb); clear HO0_4; clear BK272; clear HB; have HO0_4 := n0_; have BK272 := n1_; have HB := n2_; clear n0_ n1_ n2_; (try clear hb); (try clear hb2); (try clear hk); (try clear hi)) | ((with_reducible refine gate_dst (N := 7) rfl ?_); refine Kd.R_lit (Kd.int .u8) _ 5 ?hg (N := 7) ?hd (xs := ([] : List Int)) (inner := []) (ok := fun _ => True) (okp := fun _ => True) ?hr ?hp (fun _ hk => by first | exact hk | grind) trivial (Below.refl _ _) (Nat.le_refl _) (by simp) ?_; (case hd => rfl); (case hg => rfl); (case hr => first | (go_simp; done) | (go_simp; rfl)); (case hp => exact (Reps.none _ _)); intro v275 w8 ho9 hb hg_ hnew_; clear hg_ hnew_; (first | rw [← Ny274.out] at ho9 | (simp only [Int.reduceToNat] at ho9; rw [← Ny274.out] at ho9)); have n0_ := Aside0.mk (Kd.V_elder' (by (with_reducible repeat (first | apply Kd.V_alloc | apply Kd.V_drewN | apply Kd.V_drew)); exact HO0_4.out) (Kd.R_base ho9) hb); have n1_ := Aside0.mk (Kd.R_lower (Kd.R_newM (M := fun k_ => (w.heap.size ≤ k_)) ho9 (below_size (bf_ HB)) (fun k_ h_ => h_)) (below_size (bf_ HB))); have n2_ := bb_ BK272 hb; have n3_ := Aside0.mk (below_step (bf_ HB) hb); clear HO0_4; clear BK272; clear HB; have HO0_4 := n0_; have HO276 := n1_; have BK272 := n2_; have HB := n3_; clear n0_ n1_ n2_ n3_; clear hb ho9; have hcz10_0 := bc_ BK272 0 (.int .i64 a0_0) rfl; have hcz10_1 := bc_ BK272 1 (.int .i64 a0_1) rfl; have hcz10_2 := bc_ BK272 2 (.int .i64 a0_2) rfl; have hcz10_3 := bc_ BK272 3 (.int .i64 a0_3) rfl; have hcz10_4 := bc_ BK272 4 (.slice A0_4 l0_4.length c0_4) rfl; have hfz10_0 := blk_frozen BK272.out 0; have hfz10_1 := blk_frozen BK272.out 1; have hfz10_2 := blk_frozen BK272.out 2; have hfz10_3 := blk_frozen BK272.out 3; have hfz10_4 := blk_frozen BK272.out 4))
  (try simp only [Act.put, List.setIfInBounds_toArray, List.set_cons_zero, List.set_cons_succ])
  go_cut [3] (fun v3 wc => ∃ (kq : Nat) (x3_3 : List Int), Aside0 (impl_EtherBytes.j0 kq x3_3 a0_0 a0_1 a0_2 a0_3 l0_4 = some r) ∧ Aside0 (kq ≤ k) ∧ Aside0 (Kd.R (Kd.int .u8) 5 wc w.heap.size (fun k_ => (w.heap.size ≤ k_)) v3 x3_3) ∧ Aside0 (Kd.V (Kd.int .u8) 5 wc w.heap.size (fun k_ => (P0_4_ k_ ∨ w.heap.size ≤ k_) ∧ some k_ ≠ (v3 : Value).ownBlock ∧ k_ ≠ gb272) (.slice A0_4 l0_4.length c0_4) l0_4) ∧ Aside0 (wc.heap[gb272]? = some (.cells #[.int .i64 a0_0, .int .i64 a0_1, .int .i64 a0_2, .int .i64 a0_3, (.slice A0_4 l0_4.length c0_4)] 32 (0, 0))) ∧ Aside0 (Below w.heap.size w wc))
  case first =>
   have H := HC4.out
   clear HC4
   by_cases c11 : a0_2 ≥ 0
   ·rw [if_pos c11] at H
    have c11b0 : decide (0 ≤ a0_2) = true := decide_eq_true c11
    clear c11
    (first | rw [c11b0] | (simp only [i64_w, i32_w]; rw [c11b0]) | skip)
    replace H := Option.bind_eq_some_iff.mp H
    obtain ⟨t277, A120, H⟩ := H
    replace H : ((impl_Put16.f k a0_2).bind fun t280 => ((slices_Concat_byte_byte.f k (([t277, t280] : List (List Int)))).bind fun t286 => (impl_EtherBytes.j0 k t286 a0_0 a0_1 a0_2 a0_3 l0_4))) = some r := H
    have A12 := Aside0.mk A120
    clear A120
    replace H := Option.bind_eq_some_iff.mp H
    obtain ⟨t280, A130, H⟩ := H
    replace H : ((slices_Concat_byte_byte.f k (([t277, t280] : List (List Int)))).bind fun t286 => (impl_EtherBytes.j0 k t286 a0_0 a0_1 a0_2 a0_3 l0_4)) = some r := H
    have A13 := Aside0.mk A130
    clear A130
    obtain ⟨y283, hy283⟩ : ∃ y_ : List (List Int), y_ = (([t277, t280] : List (List Int))) := ⟨_, rfl⟩
    replace H : ((slices_Concat_byte_byte.f k y283).bind fun t286 => (impl_EtherBytes.j0 k t286 a0_0 a0_1 a0_2 a0_3 l0_4)) = some r := by first | (rw [hy283]; with_reducible exact H) | (have H2_ := (Option.bind_some _ _).symm.trans H; rw [hy283]; with_reducible exact H2_) | (have H2_ := (Option.bind_some _ _).symm.trans H; with_reducible exact H2_) | with_reducible exact H | (rw [hy283]; exact H) | exact H
    have Ny283 := Aside0.mk hy283
    clear hy283
    replace H := Option.bind_eq_some_iff.mp H
    obtain ⟨t286, A140, H⟩ := H
    replace H : (impl_EtherBytes.j0 k t286 a0_0 a0_1 a0_2 a0_3 l0_4) = some r := H
    have A14 := Aside0.mk A140
    clear A140
    have H' := Aside0.mk H
    clear H
    try go_wp2
    have n0_ := Aside0.mk (Kd.V_drew HO0_4.out); have n1_ := Aside0.mk (Kd.R_drew HO276.out); have n2_ := Aside0.mk (blk_drew BK272.out); have n3_ := Aside0.mk (below_drew1 HB.out); clear HO0_4; clear HO276; clear BK272; clear HB; have HO0_4 := n0_; have HO276 := n1_; have BK272 := n2_; have HB := n3_; clear n0_ n1_ n2_ n3_
    refine start_ (n := 7) (S := fun w' => w'.cell? ⟨gb272, 0, none⟩ = some (.int .i64 a0_0) ∧ w'.cell? ⟨gb272, 1, none⟩ = some (.int .i64 a0_1) ∧ w'.cell? ⟨gb272, 2, none⟩ = some (.int .i64 a0_2) ∧ w'.cell? ⟨gb272, 3, none⟩ = some (.int .i64 a0_3) ∧ w'.cell? ⟨gb272, 4, none⟩ = some (.slice A0_4 l0_4.length c0_4)) (ds := []) (bs 7 0) (by kernel_rfl) rfl rfl ⟨bt_ BK272 0, bt_ BK272 1, bt_ BK272 2, bt_ BK272 3, bt_ BK272 4⟩ (fun hHeld => ?_)
    generalize w8.drew = w15 at HO0_4 HO276 BK272 HB hHeld ⊢
    refine pure_s (i := 1) (N := some 12) #[oF,oT,oF,oF,oF,oF,oF] (by kernel_rfl) (h := ?_)
    refine take_ (i := 2) (N := some 13) (v := ?_) (a' := ?_) #[oF,oT,oT,oF,oF,oF,oF] rfl rfl (by kernel_rfl) (fun _ _ _ h => h) (Or.inl ⟨by rfl, ?_⟩) hHeld ?_ ?_
    rotate_left
    ·rintro w' ⟨s0, s1, s2, s3, s4⟩
     go_simp
     with_reducible rfl
    rotate_left
    ·simp only [Act.put, List.setIfInBounds_toArray, List.set_cons_zero, List.set_cons_succ, i64_w, i32_w]
     rfl
    refine one_ (i := 0) (N := some 11) (bs 7 3) rfl rfl (by kernel_rfl) (by decide) (fun K hK => ?_)
    refine goes_ Try.func63 (by kernel_rfl) rfl #[.int .i64 33024] (by rfl) rfl rfl mt_ ?_
    with_reducible refine (impl_Put16.calls k 33024 t277 _ A12.out).mono ?_
    rintro e w16 ⟨v278, rfl, ho0, hb⟩
    refine ⟨_, rfl, ?_⟩
    have n0_ := Aside0.mk (Kd.V_elder' (by (with_reducible repeat (first | apply Kd.V_alloc | apply Kd.V_drewN | apply Kd.V_drew)); exact HO0_4.out) (Kd.R_base ho0) hb)
    have n1_ := Aside0.mk (Kd.R_elder' (kr_ HO276) (Kd.R_base ho0) hb)
    have n2_ := Aside0.mk (Kd.R_lower (Kd.R_new' (Kd.R_newM (M := fun k_ => (w.heap.size ≤ k_)) ho0 (below_size (bf_ HB)) (fun k_ h_ => h_)) (Kd.R_lt (kr_ HO276))) (below_size (bf_ HB)))
    have n3_ := bb_ BK272 hb; have n4_ := Aside0.mk (below_step (bf_ HB) hb); clear HO0_4; clear HO276; clear BK272; clear HB; have HO0_4 := n0_; have HO276 := n1_; have HO279 := n2_; have BK272 := n3_; have HB := n4_; clear n0_ n1_ n2_ n3_ n4_; (try clear hb); (try clear hb2); (try clear hk); (try clear hi); (try clear ho0)
    refine hK.out _ _ ⟨bt_ BK272 0, bt_ BK272 1, bt_ BK272 2, bt_ BK272 3, bt_ BK272 4⟩ (fun hHeld => ?_)
    clear hK K
    refine norm_ (a' := ?_) ?_ ?_
    rotate_left
    ·show Act.put _ (some 11) _ = _
     simp only [Act.put, List.setIfInBounds_toArray, List.set_cons_zero, List.set_cons_succ, i64_w, i32_w]
     rfl
    refine one_ (i := 3) (N := some 14) (bs 7 4) rfl rfl (by kernel_rfl) (by decide) (fun K hK => ?_)
    refine goes_ Try.func63 (by kernel_rfl) rfl #[.int .i64 a0_2] (by rfl) rfl rfl mt_ ?_
    with_reducible refine (impl_Put16.calls k a0_2 t280 _ A13.out).mono ?_
    rintro e w17 ⟨v281, rfl, ho0, hb⟩
    refine ⟨_, rfl, ?_⟩
    have n0_ := Aside0.mk (Kd.V_elder' (by (with_reducible repeat (first | apply Kd.V_alloc | apply Kd.V_drewN | apply Kd.V_drew)); exact HO0_4.out) (Kd.R_base ho0) hb)
    have n1_ := Aside0.mk (Kd.R_elder' (kr_ HO276) (Kd.R_base ho0) hb); have n2_ := Aside0.mk (Kd.R_elder' (kr_ HO279) (Kd.R_base ho0) hb)
    have n3_ := Aside0.mk (Kd.R_lower (Kd.R_new' (Kd.R_new' (Kd.R_newM (M := fun k_ => (w.heap.size ≤ k_)) ho0 (below_size (bf_ HB)) (fun k_ h_ => h_)) (Kd.R_lt (kr_ HO276))) (Kd.R_lt (kr_ HO279))) (below_size (bf_ HB)))
    have n4_ := bb_ BK272 hb; have n5_ := Aside0.mk (below_step (bf_ HB) hb); clear HO0_4; clear HO276; clear HO279; clear BK272; clear HB; have HO0_4 := n0_; have HO276 := n1_; have HO279 := n2_; have HO282 := n3_; have BK272 := n4_; have HB := n5_; clear n0_ n1_ n2_ n3_ n4_ n5_; (try clear hb); (try clear hb2); (try clear hk); (try clear hi); (try clear ho0)
    obtain ⟨Ao18, co18, eo18⟩ := Kd.R_slice HO279.out
    (first | subst eo18 | (injection eo18 with f1_ f2_ f3_; have f4_ := f1_.symm; have f5_ := f3_.symm; clear f1_ f2_ f3_; subst f4_; subst f5_))
    obtain ⟨Ao19, co19, eo19⟩ := Kd.R_slice HO282.out
    (first | subst eo19 | (injection eo19 with f1_ f2_ f3_; have f4_ := f1_.symm; have f5_ := f3_.symm; clear f1_ f2_ f3_; subst f4_; subst f5_))
    refine hK.out _ _ ⟨bt_ BK272 0, bt_ BK272 1, bt_ BK272 2, bt_ BK272 3, bt_ BK272 4⟩ (fun hHeld => ?_)
    clear hK K
    refine norm_ (a' := ?_) ?_ ?_
    rotate_left
    ·show Act.put _ (some 14) _ = _
     simp only [Act.put, List.setIfInBounds_toArray, List.set_cons_zero, List.set_cons_succ, i64_w, i32_w]
     rfl
    refine one_ (i := 4) (N := some 15) (bs 7 5) rfl rfl (by kernel_rfl) (by decide) (fun K hK => ?_)
    refine Kd.N_lit_step (Kd.slice 5 (Kd.int .u8)) _ 22 ?hg (N' := 15) ?hd (xs := ([t277, t280] : List (List Int))) (inner := [.slice Ao18 t277.length co18, .slice Ao19 t280.length co19]) (ok := (fun k_ => (P0_4_ k_ ∨ w.heap.size ≤ k_) ∧ some k_ ≠ (v275 : Value).ownBlock ∧ k_ ≠ gb272)) (okp := (fun k_ => (P0_4_ k_ ∨ w.heap.size ≤ k_) ∧ some k_ ≠ (v275 : Value).ownBlock ∧ k_ ≠ gb272)) ?hr ?hp (fun _ hk => by first | exact hk | grind) ((show ∀ k_, w17.heap.size ≤ k_ → (fun k_ => (P0_4_ k_ ∨ w.heap.size ≤ k_) ∧ some k_ ≠ (v275 : Value).ownBlock ∧ k_ ≠ gb272) k_ from fun k_ hk => ⟨(.inr (Nat.le_trans (below_size (bf_ HB)) hk)), Kd.fresh' (Kd.R_lt (kr_ HO276)) k_ hk, Kd.freshB (g := gb272) (o := .cells #[.int .i64 a0_0, .int .i64 a0_1, .int .i64 a0_2, .int .i64 a0_3, .slice A0_4 l0_4.length c0_4] 32 (0, 0)) (bk_ BK272) k_ hk⟩) _ (Nat.le_refl _)) (Below.refl _ _) (Nat.le_refl _) (by simp) ?_; (case hd => rfl); (case hg => rfl); (case hr => first | (go_simp; done) | (go_simp; rfl)); (case hp => exact (Reps.one (show Kd.FK (Kd.slice 5 (Kd.int .u8)) _ _ t277 [.slice Ao18 t277.length co18] from (Kd.FK_slice_mk (Kd.R_reads' (Kd.R_mono (ok' := (fun k_ => (P0_4_ k_ ∨ w.heap.size ≤ k_) ∧ some k_ ≠ (v275 : Value).ownBlock ∧ k_ ≠ gb272)) (Kd.R_types (HO279.out) BK272.out (by decide)) (fun k_ hk => by first | exact ⟨(.inr (hk.1.1.1.1)), ⟨hk.1.1.2, hk.2⟩⟩ | grind))).2.1 (Kd.R_F (Kd.R_mono (ok' := (fun k_ => (P0_4_ k_ ∨ w.heap.size ≤ k_) ∧ some k_ ≠ (v275 : Value).ownBlock ∧ k_ ≠ gb272)) (Kd.R_types (HO279.out) BK272.out (by decide)) (fun k_ hk => by first | exact ⟨(.inr (hk.1.1.1.1)), ⟨hk.1.1.2, hk.2⟩⟩ | grind))))) (Reps.one (show Kd.FK (Kd.slice 5 (Kd.int .u8)) _ _ t280 [.slice Ao19 t280.length co19] from (Kd.FK_slice_mk (Kd.R_reads' (Kd.R_mono (ok' := (fun k_ => (P0_4_ k_ ∨ w.heap.size ≤ k_) ∧ some k_ ≠ (v275 : Value).ownBlock ∧ k_ ≠ gb272)) (Kd.R_types (HO282.out) BK272.out (by decide)) (fun k_ hk => by first | exact ⟨(.inr (hk.1.1.1.1)), ⟨hk.1.1.2, hk.2⟩⟩ | grind))).2.1 (Kd.R_F (Kd.R_mono (ok' := (fun k_ => (P0_4_ k_ ∨ w.heap.size ≤ k_) ∧ some k_ ≠ (v275 : Value).ownBlock ∧ k_ ≠ gb272)) (Kd.R_types (HO282.out) BK272.out (by decide)) (fun k_ hk => by first | exact ⟨(.inr (hk.1.1.1.1)), ⟨hk.1.1.2, hk.2⟩⟩ | grind))))) (Reps.none _ _))))
    intro v284 w20 ho21 hb hg_ hnew_
    clear hg_ hnew_
    (first | rw [← Ny283.out] at ho21 | (simp only [Int.reduceToNat] at ho21; rw [← Ny283.out] at ho21))
    have n0_ := Aside0.mk (Kd.V_elder' (by (with_reducible repeat (first | apply Kd.V_alloc | apply Kd.V_drewN | apply Kd.V_drew)); exact HO0_4.out) (Kd.N_base ho21) hb)
    have n1_ := Aside0.mk (Kd.R_below (kr_ HO276) hb); have n2_ := Aside0.mk (Kd.N_lower ho21 (below_size (bf_ HB))); have n3_ := bb_ BK272 hb; have n4_ := Aside0.mk (below_step (bf_ HB) hb); clear HO0_4; clear HO276; clear BK272; clear HB; clear HO279; clear HO282; have HO0_4 := n0_; have HO276 := n1_; have HO285 := n2_; have BK272 := n3_; have HB := n4_; clear n0_ n1_ n2_ n3_ n4_; clear hb ho21
    obtain ⟨Ao22, co22, eo22⟩ := Kd.N_slice HO285.out
    (first | subst eo22 | (injection eo22 with f1_ f2_ f3_; have f4_ := f1_.symm; have f5_ := f3_.symm; clear f1_ f2_ f3_; subst f4_; subst f5_))
    refine hK.out _ _ ⟨bt_ BK272 0, bt_ BK272 1, bt_ BK272 2, bt_ BK272 3, bt_ BK272 4⟩ (fun hHeld => ?_)
    clear hK K
    refine norm_ (a' := ?_) ?_ ?_
    rotate_left
    ·show Act.put _ (some 15) _ = _
     simp only [Act.put, List.setIfInBounds_toArray, List.set_cons_zero, List.set_cons_succ, i64_w, i32_w]
     rfl
    refine one_ (i := 5) (N := some 16) (bs 7 6) rfl rfl (by kernel_rfl) (by decide) (fun K hK => ?_)
    refine goes_ Try.func62 (by kernel_rfl) rfl #[.slice Ao22 y283.length co22] (by rfl) rfl rfl mt_ ?_
    with_reducible refine (slices_Concat_byte_byte.calls k _ _ y283 t286 _ ?side1 ?side2 A14.out).mono ?_
    (case side1 => repeat (first | exact (Kd.N_reads' HO285.out).2.2 | (with_reducible refine Kd.C_alloc ?_ _) | (with_reducible refine Kd.C_drewN ?_ _) | (with_reducible refine Kd.C_drew ?_)))
    (case side2 => exact (Kd.N_reads' HO285.out).2.1)
    rintro e w23 ⟨v287, rfl, ho0, hb⟩
    refine ⟨_, rfl, ?_⟩
    have n0_ := Aside0.mk (Kd.V_elder' (by (with_reducible repeat (first | apply Kd.V_alloc | apply Kd.V_drewN | apply Kd.V_drew)); exact HO0_4.out) (Kd.R_base ho0) hb)
    have n1_ := Aside0.mk (Kd.R_elder' (kr_ HO276) (Kd.R_base ho0) hb)
    have n2_ := Aside0.mk (Kd.N_elder' (by (with_reducible repeat (first | apply Kd.N_alloc | apply Kd.N_drewN | apply Kd.N_drew)); exact HO285.out) (Kd.R_base ho0) hb)
    have n3_ := Aside0.mk (Kd.R_lower (Kd.R_new' (Kd.R_newM (M := fun k_ => (w.heap.size ≤ k_)) ho0 (below_size (bf_ HB)) (fun k_ h_ => h_)) (Kd.R_lt (kr_ HO276))) (below_size (bf_ HB)))
    have n4_ := bb_ BK272 hb; have n5_ := Aside0.mk (below_step (bf_ HB) hb); clear HO0_4; clear HO276; clear HO285; clear BK272; clear HB; have HO0_4 := n0_; have HO276 := n1_; have HO285 := n2_; have HO288 := n3_; have BK272 := n4_; have HB := n5_; clear n0_ n1_ n2_ n3_ n4_ n5_; (try clear hb); (try clear hb2); (try clear hk); (try clear hi); (try clear ho0)
    refine hK.out _ _ ⟨bt_ BK272 0, bt_ BK272 1, bt_ BK272 2, bt_ BK272 3, bt_ BK272 4⟩ (fun hHeld => ?_)
    clear hK K
    refine norm_ (a' := ?_) ?_ ?_
    rotate_left
    ·show Act.put _ (some 16) _ = _
     simp only [Act.put, List.setIfInBounds_toArray, List.set_cons_zero, List.set_cons_succ, i64_w, i32_w]
     rfl
    refine pure_s (i := 6) (N := some 3) (bs 7 7) (by kernel_rfl) (h := ?_)
    refine done_ (by kernel_rfl) ?_
    try go_wp2
    go_meet
    case rel => exact ⟨_, (t286), H', ⟨by first | omega | exact Nat.le_refl _⟩, ⟨by (with_reducible repeat (first | apply Kd.R_alloc | apply Kd.R_drewN | apply Kd.R_drew)); exact Kd.R_mono HO288.out (fun _ hk => by first | exact hk.1.1 | grind)⟩, ⟨by (with_reducible repeat (first | apply Kd.V_alloc | apply Kd.V_drewN | apply Kd.V_drew)); exact Kd.V_mono HO0_4.out (fun _ hk => by first | exact ⟨hk.1.1.1.1.1.1, ⟨hk.2, hk.1.1.1.1.1.2⟩⟩ | grind)⟩, ⟨bk_ BK272⟩, ⟨bf_ HB⟩⟩
   ·rw [if_neg c11] at H
    have c11b0 : decide (0 ≤ a0_2) = false := decide_eq_false c11
    clear c11
    (first | rw [c11b0] | (simp only [i64_w, i32_w]; rw [c11b0]) | skip)
    have H' := Aside0.mk H
    clear H
    go_wp2
    go_meet
    case rel => exact ⟨_, (y274), H', ⟨by first | omega | exact Nat.le_refl _⟩, ⟨by (with_reducible repeat (first | apply Kd.R_alloc | apply Kd.R_drewN | apply Kd.R_drew)); exact Kd.R_mono HO276.out (fun _ hk => by first | exact hk.1 | grind)⟩, ⟨by (with_reducible repeat (first | apply Kd.V_alloc | apply Kd.V_drewN | apply Kd.V_drew)); exact Kd.V_mono HO0_4.out (fun _ hk => by first | exact ⟨hk.1.1, ⟨hk.2, hk.1.2⟩⟩ | grind)⟩, ⟨bk_ BK272⟩, ⟨bf_ HB⟩⟩
  case rest =>
   clear HC4; (try clear c1); (try clear p2); (try clear c3); (try clear c6); (try clear c11); (try clear c11b0); (try clear c14); (try clear hcz10_0 hcz10_1 hcz10_2 hcz10_3 hcz10_4 hfz10_0 hfz10_1 hfz10_2 hfz10_3 hfz10_4); (try clear hcz6_0 hcz6_1 hcz6_2 hcz6_3 hcz6_4 hfz6_0 hfz6_1 hfz6_2 hfz6_3 hfz6_4)
   obtain ⟨kq, x3_3, HA, HJ3, HO_3, HO_273004, BK272, HB⟩ := hcut
   cases kq with
   | zero => exact absurd HA.out (by simp [impl_EtherBytes.j0])
   | succ kj3 =>
    have H := HA.out
    clear HA
    simp only [impl_EtherBytes.j0] at H
    replace H := Option.bind_eq_some_iff.mp H
    obtain ⟨t289, A240, H⟩ := H
    replace H : ((impl_put.f kj3 a0_1 6).bind fun t292 => ((impl_Put16.f kj3 a0_3).bind fun t295 => ((slices_Concat_byte_byte.f kj3 (([t289, t292, x3_3, t295, l0_4] : List (List Int)))).bind fun t301 => (some t301)))) = some r := H
    have A24 := Aside0.mk A240
    clear A240
    replace H := Option.bind_eq_some_iff.mp H
    obtain ⟨t292, A250, H⟩ := H
    replace H : ((impl_Put16.f kj3 a0_3).bind fun t295 => ((slices_Concat_byte_byte.f kj3 (([t289, t292, x3_3, t295, l0_4] : List (List Int)))).bind fun t301 => (some t301))) = some r := H
    have A25 := Aside0.mk A250
    clear A250
    replace H := Option.bind_eq_some_iff.mp H
    obtain ⟨t295, A260, H⟩ := H
    replace H : ((slices_Concat_byte_byte.f kj3 (([t289, t292, x3_3, t295, l0_4] : List (List Int)))).bind fun t301 => (some t301)) = some r := H
    have A26 := Aside0.mk A260
    clear A260
    obtain ⟨y298, hy298⟩ : ∃ y_ : List (List Int), y_ = (([t289, t292, x3_3, t295, l0_4] : List (List Int))) := ⟨_, rfl⟩
    replace H : ((slices_Concat_byte_byte.f kj3 y298).bind fun t301 => (some t301)) = some r := by first | (rw [hy298]; with_reducible exact H) | (have H2_ := (Option.bind_some _ _).symm.trans H; rw [hy298]; with_reducible exact H2_) | (have H2_ := (Option.bind_some _ _).symm.trans H; with_reducible exact H2_) | with_reducible exact H | (rw [hy298]; exact H) | exact H
    have Ny298 := Aside0.mk hy298
    clear hy298
    replace H := Option.bind_eq_some_iff.mp H
    obtain ⟨t301, A270, H⟩ := H
    replace H : (some t301) = some r := H
    have A27 := Aside0.mk A270
    clear A270
    obtain rfl := Option.some.inj H
    try go_wp2
    have n0_ := Aside0.mk (Kd.R_drew HO_3.out); have n1_ := Aside0.mk (Kd.V_drew HO_273004.out); have n2_ := Aside0.mk (blk_drew BK272.out); have n3_ := Aside0.mk (below_drew1 HB.out); clear HO_3; clear HO_273004; clear BK272; clear HB; have HO_3 := n0_; have HO_273004 := n1_; have BK272 := n2_; have HB := n3_; clear n0_ n1_ n2_ n3_
    refine start_ (n := 15) (S := fun w' => w'.cell? ⟨gb272, 0, none⟩ = some (.int .i64 a0_0) ∧ w'.cell? ⟨gb272, 1, none⟩ = some (.int .i64 a0_1) ∧ w'.cell? ⟨gb272, 2, none⟩ = some (.int .i64 a0_2) ∧ w'.cell? ⟨gb272, 3, none⟩ = some (.int .i64 a0_3) ∧ w'.cell? ⟨gb272, 4, none⟩ = some (.slice A0_4 l0_4.length c0_4)) (ds := []) (bs 15 0) (by kernel_rfl) rfl rfl ⟨bt_ BK272 0, bt_ BK272 1, bt_ BK272 2, bt_ BK272 3, bt_ BK272 4⟩ (fun hHeld => ?_); refine with_tabW impl_EtherBytes.tab6 impl_EtherBytes.bits6 (fun HT_ HW_ => ?_)
    generalize wc.drew = w28 at HO_3 HO_273004 BK272 HB hHeld ⊢
    refine pure_s (i := 0) (N := some 17) (bs 15 1) (any_of HT_.out (by kernel_rfl)) (h := ?_)
    refine pure_s (i := 3) (N := some 20) #[oT,oF,oF,oT,oF,oF,oF,oF,oF,oF,oF,oF,oF,oF,oF] (any_of HT_.out (by kernel_rfl)) (h := ?_)
    refine pure_s (i := 6) (N := some 23) #[oT,oF,oF,oT,oF,oF,oT,oF,oF,oF,oF,oF,oF,oF,oF] (any_of HT_.out (by kernel_rfl)) (h := ?_)
    refine pure_s (i := 7) (N := some 24) #[oT,oF,oF,oT,oF,oF,oT,oT,oF,oF,oF,oF,oF,oF,oF] (any_of HT_.out (by kernel_rfl)) (h := ?_)
    refine pure_s (i := 10) (N := some 27) #[oT,oF,oF,oT,oF,oF,oT,oT,oF,oF,oT,oF,oF,oF,oF] (any_of HT_.out (by kernel_rfl)) (h := ?_)
    refine take_ (i := 1) (N := some 18) (v := ?_) (a' := ?_) #[oT,oT,oF,oT,oF,oF,oT,oT,oF,oF,oT,oF,oF,oF,oF] rfl rfl (take_ofW HT_.out HW_.out (by kernel_rfl)) (fun _ _ _ h => h) (Or.inl ⟨by rfl, ?_⟩) hHeld ?_ ?_
    rotate_left
    ·rintro w' ⟨s0, s1, s2, s3, s4⟩
     go_simp
     with_reducible rfl
    rotate_left
    ·simp only [Act.put, List.setIfInBounds_toArray, List.set_cons_zero, List.set_cons_succ, i64_w, i32_w]
     rfl
    refine take_ (i := 4) (N := some 21) (v := ?_) (a' := ?_) #[oT,oT,oF,oT,oT,oF,oT,oT,oF,oF,oT,oF,oF,oF,oF] rfl rfl (take_ofW HT_.out HW_.out (by kernel_rfl)) (fun _ _ _ h => h) (Or.inl ⟨by rfl, ?_⟩) hHeld ?_ ?_
    rotate_left
    ·rintro w' ⟨s0, s1, s2, s3, s4⟩
     go_simp
     with_reducible rfl
    rotate_left
    ·simp only [Act.put, List.setIfInBounds_toArray, List.set_cons_zero, List.set_cons_succ, i64_w, i32_w]
     rfl
    refine take_ (i := 8) (N := some 25) (v := ?_) (a' := ?_) #[oT,oT,oF,oT,oT,oF,oT,oT,oT,oF,oT,oF,oF,oF,oF] rfl rfl (take_ofW HT_.out HW_.out (by kernel_rfl)) (fun _ _ _ h => h) (Or.inl ⟨by rfl, ?_⟩) hHeld ?_ ?_
    rotate_left
    ·rintro w' ⟨s0, s1, s2, s3, s4⟩
     go_simp
     with_reducible rfl
    rotate_left
    ·simp only [Act.put, List.setIfInBounds_toArray, List.set_cons_zero, List.set_cons_succ, i64_w, i32_w]
     rfl
    refine take_ (i := 11) (N := some 28) (v := ?_) (a' := ?_) #[oT,oT,oF,oT,oT,oF,oT,oT,oT,oF,oT,oT,oF,oF,oF] rfl rfl (take_ofW HT_.out HW_.out (by kernel_rfl)) (fun _ _ _ h => h) (Or.inl ⟨by rfl, ?_⟩) hHeld ?_ ?_
    rotate_left
    ·rintro w' ⟨s0, s1, s2, s3, s4⟩
     go_simp
     with_reducible rfl
    rotate_left
    ·simp only [Act.put, List.setIfInBounds_toArray, List.set_cons_zero, List.set_cons_succ, i64_w, i32_w]
     rfl
    refine one_ (i := 2) (N := some 19) #[oT,oT,oT,oT,oT,oF,oT,oT,oT,oF,oT,oT,oF,oF,oF] rfl rfl (one_of HT_.out (by kernel_rfl)) (by decide) (fun K hK => ?_)
    refine goes_ Try.func64 (by kernel_rfl) rfl #[.int .i64 a0_0, .int .i64 6] (by rfl) rfl rfl mt_ ?_
    with_reducible refine (impl_put.calls kj3 a0_0 6 t289 _ A24.out).mono ?_
    rintro e w29 ⟨v290, rfl, ho0, hb⟩
    refine ⟨_, rfl, ?_⟩
    have n0_ := Aside0.mk (Kd.R_elder' (kr_ HO_3) (Kd.R_base ho0) hb)
    have n1_ := Aside0.mk (Kd.V_elder' (by (with_reducible repeat (first | apply Kd.V_alloc | apply Kd.V_drewN | apply Kd.V_drew)); exact HO_273004.out) (Kd.R_base ho0) hb)
    have n2_ := Aside0.mk (Kd.R_lower (Kd.R_new' (Kd.R_newM (M := fun k_ => (w.heap.size ≤ k_)) ho0 (below_size (bf_ HB)) (fun k_ h_ => h_)) (Kd.R_lt (kr_ HO_3))) (below_size (bf_ HB)))
    have n3_ := bb_ BK272 hb; have n4_ := Aside0.mk (below_step (bf_ HB) hb); clear HO_3; clear HO_273004; clear BK272; clear HB; have HO_3 := n0_; have HO_273004 := n1_; have HO291 := n2_; have BK272 := n3_; have HB := n4_; clear n0_ n1_ n2_ n3_ n4_; (try clear hb); (try clear hb2); (try clear hk); (try clear hi); (try clear ho0)
    refine hK.out _ _ ⟨bt_ BK272 0, bt_ BK272 1, bt_ BK272 2, bt_ BK272 3, bt_ BK272 4⟩ (fun hHeld => ?_)
    clear hK K
    refine norm_ (a' := ?_) ?_ ?_
    rotate_left
    ·show Act.put _ (some 19) _ = _
     simp only [Act.put, List.setIfInBounds_toArray, List.set_cons_zero, List.set_cons_succ, i64_w, i32_w]
     rfl
    refine one_ (i := 5) (N := some 22) #[oT,oT,oT,oT,oT,oT,oT,oT,oT,oF,oT,oT,oF,oF,oF] rfl rfl (one_of HT_.out (by kernel_rfl)) (by decide) (fun K hK => ?_)
    refine goes_ Try.func64 (by kernel_rfl) rfl #[.int .i64 a0_1, .int .i64 6] (by rfl) rfl rfl mt_ ?_
    with_reducible refine (impl_put.calls kj3 a0_1 6 t292 _ A25.out).mono ?_
    rintro e w30 ⟨v293, rfl, ho0, hb⟩
    refine ⟨_, rfl, ?_⟩
    have n0_ := Aside0.mk (Kd.R_elder' (kr_ HO_3) (Kd.R_base ho0) hb)
    have n1_ := Aside0.mk (Kd.V_elder' (by (with_reducible repeat (first | apply Kd.V_alloc | apply Kd.V_drewN | apply Kd.V_drew)); exact HO_273004.out) (Kd.R_base ho0) hb)
    have n2_ := Aside0.mk (Kd.R_elder' (kr_ HO291) (Kd.R_base ho0) hb)
    have n3_ := Aside0.mk (Kd.R_lower (Kd.R_new' (Kd.R_new' (Kd.R_newM (M := fun k_ => (w.heap.size ≤ k_)) ho0 (below_size (bf_ HB)) (fun k_ h_ => h_)) (Kd.R_lt (kr_ HO_3))) (Kd.R_lt (kr_ HO291))) (below_size (bf_ HB)))
    have n4_ := bb_ BK272 hb; have n5_ := Aside0.mk (below_step (bf_ HB) hb); clear HO_3; clear HO_273004; clear HO291; clear BK272; clear HB; have HO_3 := n0_; have HO_273004 := n1_; have HO291 := n2_; have HO294 := n3_; have BK272 := n4_; have HB := n5_; clear n0_ n1_ n2_ n3_ n4_ n5_; (try clear hb); (try clear hb2); (try clear hk); (try clear hi); (try clear ho0)
    refine hK.out _ _ ⟨bt_ BK272 0, bt_ BK272 1, bt_ BK272 2, bt_ BK272 3, bt_ BK272 4⟩ (fun hHeld => ?_)
    clear hK K
    refine norm_ (a' := ?_) ?_ ?_
    rotate_left
    ·show Act.put _ (some 22) _ = _
     simp only [Act.put, List.setIfInBounds_toArray, List.set_cons_zero, List.set_cons_succ, i64_w, i32_w]
     rfl
    refine one_ (i := 9) (N := some 26) (bs 15 12) rfl rfl (one_of HT_.out (by kernel_rfl)) (by decide) (fun K hK => ?_)
    refine goes_ Try.func63 (by kernel_rfl) rfl #[.int .i64 a0_3] (by rfl) rfl rfl mt_ ?_
    with_reducible refine (impl_Put16.calls kj3 a0_3 t295 _ A26.out).mono ?_
    rintro e w31 ⟨v296, rfl, ho0, hb⟩
    refine ⟨_, rfl, ?_⟩
    have n0_ := Aside0.mk (Kd.R_elder' (kr_ HO_3) (Kd.R_base ho0) hb)
    have n1_ := Aside0.mk (Kd.V_elder' (by (with_reducible repeat (first | apply Kd.V_alloc | apply Kd.V_drewN | apply Kd.V_drew)); exact HO_273004.out) (Kd.R_base ho0) hb)
    have n2_ := Aside0.mk (Kd.R_elder' (kr_ HO291) (Kd.R_base ho0) hb); have n3_ := Aside0.mk (Kd.R_elder' (kr_ HO294) (Kd.R_base ho0) hb)
    have n4_ := Aside0.mk (Kd.R_lower (Kd.R_new' (Kd.R_new' (Kd.R_new' (Kd.R_newM (M := fun k_ => (w.heap.size ≤ k_)) ho0 (below_size (bf_ HB)) (fun k_ h_ => h_)) (Kd.R_lt (kr_ HO_3))) (Kd.R_lt (kr_ HO291))) (Kd.R_lt (kr_ HO294))) (below_size (bf_ HB)))
    have n5_ := bb_ BK272 hb; have n6_ := Aside0.mk (below_step (bf_ HB) hb); clear HO_3; clear HO_273004; clear HO291; clear HO294; clear BK272; clear HB; have HO_3 := n0_; have HO_273004 := n1_; have HO291 := n2_; have HO294 := n3_; have HO297 := n4_; have BK272 := n5_; have HB := n6_; clear n0_ n1_ n2_ n3_ n4_ n5_ n6_; (try clear hb); (try clear hb2); (try clear hk); (try clear hi); (try clear ho0)
    obtain ⟨Ao32, co32, eo32⟩ := Kd.R_slice HO291.out
    (first | subst eo32 | (injection eo32 with f1_ f2_ f3_; have f4_ := f1_.symm; have f5_ := f3_.symm; clear f1_ f2_ f3_; subst f4_; subst f5_))
    obtain ⟨Ao33, co33, eo33⟩ := Kd.R_slice HO294.out
    (first | subst eo33 | (injection eo33 with f1_ f2_ f3_; have f4_ := f1_.symm; have f5_ := f3_.symm; clear f1_ f2_ f3_; subst f4_; subst f5_))
    obtain ⟨Ao34, co34, eo34⟩ := Kd.R_slice HO_3.out
    (first | subst eo34 | (injection eo34 with f1_ f2_ f3_; have f4_ := f1_.symm; have f5_ := f3_.symm; clear f1_ f2_ f3_; subst f4_; subst f5_))
    obtain ⟨Ao35, co35, eo35⟩ := Kd.R_slice HO297.out
    (first | subst eo35 | (injection eo35 with f1_ f2_ f3_; have f4_ := f1_.symm; have f5_ := f3_.symm; clear f1_ f2_ f3_; subst f4_; subst f5_))
    refine hK.out _ _ ⟨bt_ BK272 0, bt_ BK272 1, bt_ BK272 2, bt_ BK272 3, bt_ BK272 4⟩ (fun hHeld => ?_)
    clear hK K
    refine norm_ (a' := ?_) ?_ ?_
    rotate_left
    ·show Act.put _ (some 26) _ = _
     simp only [Act.put, List.setIfInBounds_toArray, List.set_cons_zero, List.set_cons_succ, i64_w, i32_w]
     rfl
    refine one_ (i := 12) (N := some 29) (bs 15 13) rfl rfl (one_of HT_.out (by kernel_rfl)) (by decide) (fun K hK => ?_)
    refine Kd.N_lit_step (Kd.slice 5 (Kd.int .u8)) _ 22 ?hg (N' := 29) ?hd (xs := ([t289, t292, x3_3, t295, l0_4] : List (List Int))) (inner := [.slice Ao32 t289.length co32, .slice Ao33 t292.length co33, .slice Ao34 x3_3.length co34, .slice Ao35 t295.length co35, .slice A0_4 l0_4.length c0_4]) (ok := (fun k_ => (P0_4_ k_ ∨ w.heap.size ≤ k_) ∧ k_ ≠ gb272)) (okp := (fun k_ => (P0_4_ k_ ∨ w.heap.size ≤ k_) ∧ k_ ≠ gb272)) ?hr ?hp (fun _ hk => by first | exact hk | grind) ((show ∀ k_, w31.heap.size ≤ k_ → (fun k_ => (P0_4_ k_ ∨ w.heap.size ≤ k_) ∧ k_ ≠ gb272) k_ from fun k_ hk => ⟨(.inr (Nat.le_trans (below_size (bf_ HB)) hk)), Kd.freshB (g := gb272) (o := .cells #[.int .i64 a0_0, .int .i64 a0_1, .int .i64 a0_2, .int .i64 a0_3, .slice A0_4 l0_4.length c0_4] 32 (0, 0)) (bk_ BK272) k_ hk⟩) _ (Nat.le_refl _)) (Below.refl _ _) (Nat.le_refl _) (by simp) ?_; (case hd => rfl); (case hg => rfl); (case hr => first | (go_simp; done) | (go_simp; rfl)); (case hp => exact (Reps.one (show Kd.FK (Kd.slice 5 (Kd.int .u8)) _ _ t289 [.slice Ao32 t289.length co32] from (Kd.FK_slice_mk (Kd.R_reads' (Kd.R_mono (ok' := (fun k_ => (P0_4_ k_ ∨ w.heap.size ≤ k_) ∧ k_ ≠ gb272)) (Kd.R_types (HO291.out) BK272.out (by decide)) (fun k_ hk => by first | exact ⟨(.inr (hk.1.1.1.1.1)), hk.2⟩ | grind))).2.1 (Kd.R_F (Kd.R_mono (ok' := (fun k_ => (P0_4_ k_ ∨ w.heap.size ≤ k_) ∧ k_ ≠ gb272)) (Kd.R_types (HO291.out) BK272.out (by decide)) (fun k_ hk => by first | exact ⟨(.inr (hk.1.1.1.1.1)), hk.2⟩ | grind))))) (Reps.one (show Kd.FK (Kd.slice 5 (Kd.int .u8)) _ _ t292 [.slice Ao33 t292.length co33] from (Kd.FK_slice_mk (Kd.R_reads' (Kd.R_mono (ok' := (fun k_ => (P0_4_ k_ ∨ w.heap.size ≤ k_) ∧ k_ ≠ gb272)) (Kd.R_types (HO294.out) BK272.out (by decide)) (fun k_ hk => by first | exact ⟨(.inr (hk.1.1.1.1.1)), hk.2⟩ | grind))).2.1 (Kd.R_F (Kd.R_mono (ok' := (fun k_ => (P0_4_ k_ ∨ w.heap.size ≤ k_) ∧ k_ ≠ gb272)) (Kd.R_types (HO294.out) BK272.out (by decide)) (fun k_ hk => by first | exact ⟨(.inr (hk.1.1.1.1.1)), hk.2⟩ | grind))))) (Reps.one (show Kd.FK (Kd.slice 5 (Kd.int .u8)) _ _ x3_3 [.slice Ao34 x3_3.length co34] from (Kd.FK_slice_mk (Kd.R_reads' (Kd.R_mono (ok' := (fun k_ => (P0_4_ k_ ∨ w.heap.size ≤ k_) ∧ k_ ≠ gb272)) (Kd.R_types (HO_3.out) BK272.out (by decide)) (fun k_ hk => by first | exact ⟨(.inr (hk.1.1.1.1)), hk.2⟩ | grind))).2.1 (Kd.R_F (Kd.R_mono (ok' := (fun k_ => (P0_4_ k_ ∨ w.heap.size ≤ k_) ∧ k_ ≠ gb272)) (Kd.R_types (HO_3.out) BK272.out (by decide)) (fun k_ hk => by first | exact ⟨(.inr (hk.1.1.1.1)), hk.2⟩ | grind))))) (Reps.one (show Kd.FK (Kd.slice 5 (Kd.int .u8)) _ _ t295 [.slice Ao35 t295.length co35] from (Kd.FK_slice_mk (Kd.R_reads' (Kd.R_mono (ok' := (fun k_ => (P0_4_ k_ ∨ w.heap.size ≤ k_) ∧ k_ ≠ gb272)) (Kd.R_types (HO297.out) BK272.out (by decide)) (fun k_ hk => by first | exact ⟨(.inr (hk.1.1.1.1.1)), hk.2⟩ | grind))).2.1 (Kd.R_F (Kd.R_mono (ok' := (fun k_ => (P0_4_ k_ ∨ w.heap.size ≤ k_) ∧ k_ ≠ gb272)) (Kd.R_types (HO297.out) BK272.out (by decide)) (fun k_ hk => by first | exact ⟨(.inr (hk.1.1.1.1.1)), hk.2⟩ | grind))))) (Reps.one (show Kd.FK (Kd.slice 5 (Kd.int .u8)) _ _ l0_4 [.slice A0_4 l0_4.length c0_4] from (Kd.FK_slice_mk (Kd.V_reads' (Kd.V_mono (ok' := (fun k_ => (P0_4_ k_ ∨ w.heap.size ≤ k_) ∧ k_ ≠ gb272)) (HO_273004.out) (fun k_ hk => by first | exact ⟨hk.1.1.1.1, hk.1.1.1.2.2⟩ | grind))).2.1 (Kd.V_F (Kd.V_mono (ok' := (fun k_ => (P0_4_ k_ ∨ w.heap.size ≤ k_) ∧ k_ ≠ gb272)) (HO_273004.out) (fun k_ hk => by first | exact ⟨hk.1.1.1.1, hk.1.1.1.2.2⟩ | grind))))) (Reps.none _ _)))))))
    intro v299 w36 ho37 hb hg_ hnew_
    clear hg_ hnew_
    (first | rw [← Ny298.out] at ho37 | (simp only [Int.reduceToNat] at ho37; rw [← Ny298.out] at ho37))
    have n0_ := Aside0.mk (Kd.V_elder' (by (with_reducible repeat (first | apply Kd.V_alloc | apply Kd.V_drewN | apply Kd.V_drew)); exact HO_273004.out) (Kd.N_base ho37) hb)
    have n1_ := Aside0.mk (Kd.N_lower ho37 (below_size (bf_ HB))); have n2_ := bb_ BK272 hb; have n3_ := Aside0.mk (below_step (bf_ HB) hb); clear HO_273004; clear BK272; clear HB; clear HO291; clear HO294; clear HO297; clear HO_3; have HO_273004 := n0_; have HO300 := n1_; have BK272 := n2_; have HB := n3_; clear n0_ n1_ n2_ n3_; clear hb ho37
    obtain ⟨Ao38, co38, eo38⟩ := Kd.N_slice HO300.out
    (first | subst eo38 | (injection eo38 with f1_ f2_ f3_; have f4_ := f1_.symm; have f5_ := f3_.symm; clear f1_ f2_ f3_; subst f4_; subst f5_))
    refine hK.out _ _ ⟨bt_ BK272 0, bt_ BK272 1, bt_ BK272 2, bt_ BK272 3, bt_ BK272 4⟩ (fun hHeld => ?_)
    clear hK K
    refine norm_ (a' := ?_) ?_ ?_
    rotate_left
    ·show Act.put _ (some 29) _ = _
     simp only [Act.put, List.setIfInBounds_toArray, List.set_cons_zero, List.set_cons_succ, i64_w, i32_w]
     rfl
    refine one_ (i := 13) (N := some 30) (bs 15 14) rfl rfl (one_of HT_.out (by kernel_rfl)) (by decide) (fun K hK => ?_)
    refine goes_ Try.func62 (by kernel_rfl) rfl #[.slice Ao38 y298.length co38] (by rfl) rfl rfl mt_ ?_
    with_reducible refine (slices_Concat_byte_byte.calls kj3 _ _ y298 t301 _ ?side1 ?side2 A27.out).mono ?_
    (case side1 => repeat (first | exact (Kd.N_reads' HO300.out).2.2 | (with_reducible refine Kd.C_alloc ?_ _) | (with_reducible refine Kd.C_drewN ?_ _) | (with_reducible refine Kd.C_drew ?_)))
    (case side2 => exact (Kd.N_reads' HO300.out).2.1)
    rintro e w39 ⟨v302, rfl, ho0, hb⟩
    refine ⟨_, rfl, ?_⟩
    have n0_ := Aside0.mk (Kd.V_elder' (by (with_reducible repeat (first | apply Kd.V_alloc | apply Kd.V_drewN | apply Kd.V_drew)); exact HO_273004.out) (Kd.R_base ho0) hb)
    have n1_ := Aside0.mk (Kd.N_elder' (by (with_reducible repeat (first | apply Kd.N_alloc | apply Kd.N_drewN | apply Kd.N_drew)); exact HO300.out) (Kd.R_base ho0) hb)
    have n2_ := Aside0.mk (Kd.R_lower (Kd.R_newM (M := fun k_ => (w.heap.size ≤ k_)) ho0 (below_size (bf_ HB)) (fun k_ h_ => h_)) (below_size (bf_ HB)))
    have n3_ := bb_ BK272 hb; have n4_ := Aside0.mk (below_step (bf_ HB) hb); clear HO_273004; clear HO300; clear BK272; clear HB; have HO_273004 := n0_; have HO300 := n1_; have HO303 := n2_; have BK272 := n3_; have HB := n4_; clear n0_ n1_ n2_ n3_ n4_; (try clear hb); (try clear hb2); (try clear hk); (try clear hi); (try clear ho0)
    refine hK.out _ _ ⟨bt_ BK272 0, bt_ BK272 1, bt_ BK272 2, bt_ BK272 3, bt_ BK272 4⟩ (fun hHeld => ?_)
    clear hK K
    refine norm_ (a' := ?_) ?_ ?_
    rotate_left
    ·show Act.put _ (some 30) _ = _
     simp only [Act.put, List.setIfInBounds_toArray, List.set_cons_zero, List.set_cons_succ, i64_w, i32_w]
     rfl
    refine pure_s (i := 14) (N := some 2) (bs 15 15) (any_of HT_.out (by kernel_rfl)) (h := ?_)
    refine done_ (done_of HT_.out (by kernel_rfl)) ?_
    try go_wp2
    go_ret
    exact ⟨_, by first | rfl | (simp [errW_none, errW_some] <;> rfl) | (simp [*, errW_none, errW_some] <;> rfl), by (with_reducible repeat (first | apply Kd.R_alloc | apply Kd.R_drewN | apply Kd.R_drew)); exact Kd.R_mono HO303.out (fun _ hk => by first | exact hk.1 | grind), bf_ HB⟩
 ·replace c3 := Bool.eq_false_iff.mpr c3
  subst c3
  have H1 : (some ([] : List Int)) = some r := by rw [if_neg (show ¬ (false = true) by decide)] at H; exact H
  clear H
  have H := H1
  clear H1
  obtain rfl := Option.some.inj H
  go_enter Try.func14, Try.ntmps14
  go_wp2_with (first | ((with_reducible refine gate_dst (N := 1) rfl ?_); refine box_event ?hg (N := 1) ?hd (cs := #[.int .i64 a0_0, .int .i64 a0_1, .int .i64 a0_2, .int .i64 a0_3, .slice A0_4 l0_4.length c0_4]) (t := 32) ?hr ?_; (case hd => rfl); (case hg => rfl); (case hr => first | (go_simp; done) | (go_simp; rfl)); intro gb272 hg w40 hbox hb; have n0_ := Aside0.mk (Kd.V_below (Kd.V_elderB (by (with_reducible repeat (first | apply Kd.V_alloc | apply Kd.V_drewN | apply Kd.V_drew)); exact HO0_4.out) gb272 (Nat.le_of_eq hg.symm)) hb); have n1_ := Aside0.mk (below_step (be_ HB) hb); have n2_ := Aside0.mk (hbox); have n3_ := gw_ HB hg; have n4_ := gw_ HB hg; clear HO0_4; clear HB; have HO0_4 := n0_; have HB := n1_; have BK272 := n2_; have GW272 := n3_; have GE272 := n4_; clear n0_ n1_ n2_ n3_ n4_; clear hb hbox hg; have hcz41_0 := bc_ BK272 0 (.int .i64 a0_0) rfl; have hcz41_1 := bc_ BK272 1 (.int .i64 a0_1) rfl; have hcz41_2 := bc_ BK272 2 (.int .i64 a0_2) rfl; have hcz41_3 := bc_ BK272 3 (.int .i64 a0_3) rfl; have hcz41_4 := bc_ BK272 4 (.slice A0_4 l0_4.length c0_4) rfl; have hfz41_0 := blk_frozen BK272.out 0; have hfz41_1 := blk_frozen BK272.out 1; have hfz41_2 := blk_frozen BK272.out 2; have hfz41_3 := blk_frozen BK272.out 3; have hfz41_4 := blk_frozen BK272.out 4) | ((with_reducible refine gate_callee (f := 61) rfl ?_); refine goesL_ (some 5) rfl rfl Try.func61 (by kernel_rfl) rfl #[.agg #[.int .i64 a0_0, .int .i64 a0_1, .int .i64 a0_2, .int .i64 a0_3, .slice A0_4 l0_4.length c0_4]] rfl mt_ ?_; (with_reducible refine (impl_EtherOk.calls a0_0 a0_1 a0_2 a0_3 _ _ l0_4 false _ ?side1 ?side2 A2.out).mono ?_); (case side1 => repeat (first | exact (Kd.V_reads' HO0_4.out).2.2 | (with_reducible refine Kd.C_alloc ?_ _) | (with_reducible refine Kd.C_drewN ?_ _) | (with_reducible refine Kd.C_drew ?_))); (case side2 => exact (Kd.V_reads' HO0_4.out).2.1); rintro e w42 ⟨rfl, hb⟩; refine ⟨_, rfl, ?_⟩; have n0_ := Aside0.mk (Kd.V_below (by (with_reducible repeat (first | apply Kd.V_alloc | apply Kd.V_drewN | apply Kd.V_drew)); exact HO0_4.out) hb); have n1_ := bb_ BK272 hb; have n2_ := Aside0.mk (below_step (bf_ HB) hb); clear HO0_4; clear BK272; clear HB; have HO0_4 := n0_; have BK272 := n1_; have HB := n2_; clear n0_ n1_ n2_; (try clear hb); (try clear hb2); (try clear hk); (try clear hi)))
  go_ret
  exact ⟨_, by first | rfl | (simp [errW_none, errW_some] <;> rfl) | (simp [*, errW_none, errW_some] <;> rfl), by first | exact Kd.R_nil _ _ _ _ _ | exact Kd.N_nil _ _ _ _ _ | exact Kd.V_nil _ _ _ _ _ | exact Kd.Q_nil _ _ _ _ _ | exact Kd.S_nil _ _ _ _ _, bf_ HB⟩

/-! ### spec_EtherOk: function 15 -/
def spec_EtherOk.j0 : Nat → Bool → Int → Int → Int → Int → List Int → Option (Bool)
  | 0, _, _, _, _, _, _ => none
  | k + 1, x31, x305000, x305001, x305002, x305003, x305004 => if x31 = true then (some false) else (if x305002 ≥ 0 then (if x305003 ≥ 1536 then (if x305003 ≤ 65535 then (if x305003 = 33024 then (some false) else (some (decide ((x305004.length : Int) ≤ (1600 - 18))))) else (some false)) else (some false)) else (if x305003 ≥ 1536 then (if x305003 ≤ 65535 then (if x305003 = 33024 then (some false) else (some (decide ((x305004.length : Int) ≤ (1600 - 14))))) else (some false)) else (some false)))
def spec_EtherOk.f (k : Nat) (a0_0 : Int) (a0_1 : Int) (a0_2 : Int) (a0_3 : Int) (l0_4 : List Int) : Option (Bool) := if a0_0 < 0 then (spec_EtherOk.j0 k true a0_0 a0_1 a0_2 a0_3 l0_4) else (if a0_0 > 281474976710655 then (spec_EtherOk.j0 k true a0_0 a0_1 a0_2 a0_3 l0_4) else (if a0_1 < 0 then (spec_EtherOk.j0 k true a0_0 a0_1 a0_2 a0_3 l0_4) else (if a0_1 > 281474976710655 then (spec_EtherOk.j0 k true a0_0 a0_1 a0_2 a0_3 l0_4) else (if a0_2 < (-1) then (spec_EtherOk.j0 k true a0_0 a0_1 a0_2 a0_3 l0_4) else (spec_EtherOk.j0 k (decide (a0_2 > 65535)) a0_0 a0_1 a0_2 a0_3 l0_4)))))
theorem spec_EtherOk.mono_l : ∀ k, (∀ y0 y1 y2 y3 y4 y5, LeO (spec_EtherOk.j0 k y0 y1 y2 y3 y4 y5) (spec_EtherOk.j0 (k + 1) y0 y1 y2 y3 y4 y5))
 | 0 => fun _ _ _ _ _ _ r h => by simp [spec_EtherOk.j0] at h
 | k + 1 => by
  have ih0 := spec_EtherOk.mono_l k
  ·intro y0 y1 y2 y3 y4 y5
   unfold spec_EtherOk.j0
   repeat' first
   | (with_reducible exact ih0 _ _ _ _ _ _)
   | (with_reducible exact LeO.refl _)
   | (with_reducible exact LeO.none _)
   | (with_reducible refine LeO.ite ?_ ?_)
   | (with_reducible refine LeO.bind ?_ (fun _ => ?_))
   | exact ih0 _ _ _ _ _ _
   | exact LeO.none _
   | refine LeO.ite ?_ ?_
   | refine LeO.bind ?_ (fun _ => ?_)
theorem spec_EtherOk.mono : ∀ a0 a1 a2 a3 a4 k, LeO (spec_EtherOk.f k a0 a1 a2 a3 a4) (spec_EtherOk.f (k + 1) a0 a1 a2 a3 a4) := by
 intro a0 a1 a2 a3 a4 k
 have ih0 := spec_EtherOk.mono_l k
 unfold spec_EtherOk.f
 repeat' first
   | (with_reducible exact ih0 _ _ _ _ _ _)
   | (with_reducible exact LeO.refl _)
   | (with_reducible exact LeO.none _)
   | (with_reducible refine LeO.ite ?_ ?_)
   | (with_reducible refine LeO.bind ?_ (fun _ => ?_))
   | exact ih0 _ _ _ _ _ _
   | exact LeO.none _
   | refine LeO.ite ?_ ?_
   | refine LeO.bind ?_ (fun _ => ?_)
set_option maxHeartbeats 8000000 in
set_option maxRecDepth 100000 in
theorem spec_EtherOk.calls (k : Nat) (a0_0 : Int) (a0_1 : Int) (a0_2 : Int) (a0_3 : Int) (A0_4 : Option Addr) (c0_4 : Nat) (l0_4 : List Int) (r : Bool) (w : World) (hr0_4 : Kd.C (Kd.int .u8) w A0_4 l0_4.length l0_4) (hc0_4 : l0_4.length ≤ c0_4) (h : spec_EtherOk.f k a0_0 a0_1 a0_2 a0_3 l0_4 = some r) :
  Calls Try.prog 15 #[.agg #[.int .i64 a0_0, .int .i64 a0_1, .int .i64 a0_2, .int .i64 a0_3, .slice A0_4 l0_4.length c0_4]] w fun e w' => e = .returned (.bool r) ∧ Below w.heap.size w w' := by
 have hu32 := Try.underlying32
 have HR0_4 := Aside0.mk hr0_4
 have HC0_4 := Aside0.mk hc0_4
 clear hr0_4 hc0_4; have HB := Aside0.mk (Below.refl w.heap.size w)
 have H : (if a0_0 < 0 then (spec_EtherOk.j0 k true a0_0 a0_1 a0_2 a0_3 l0_4) else (if a0_0 > 281474976710655 then (spec_EtherOk.j0 k true a0_0 a0_1 a0_2 a0_3 l0_4) else (if a0_1 < 0 then (spec_EtherOk.j0 k true a0_0 a0_1 a0_2 a0_3 l0_4) else (if a0_1 > 281474976710655 then (spec_EtherOk.j0 k true a0_0 a0_1 a0_2 a0_3 l0_4) else (if a0_2 < (-1) then (spec_EtherOk.j0 k true a0_0 a0_1 a0_2 a0_3 l0_4) else (spec_EtherOk.j0 k (decide (a0_2 > 65535)) a0_0 a0_1 a0_2 a0_3 l0_4)))))) = some r := h
 clear h
 have HC2 := Aside0.mk H
 clear H
 go_enter Try.func15, Try.ntmps15
 go_upto_region 1 with (first | ((with_reducible refine gate_dst (N := 1) rfl ?_); (try (refine gate_guard (by rfl) ?_; dsimp only)); refine box_event ?hg (N := 1) ?hd (cs := #[.int .i64 a0_0, .int .i64 a0_1, .int .i64 a0_2, .int .i64 a0_3, .slice A0_4 l0_4.length c0_4]) (t := 32) ?hr ?_; (case hd => rfl); (case hg => rfl); (case hr => first | (go_simp; done) | (go_simp; rfl)); intro gb304 hg w3 hbox hb; have n0_ := Aside0.mk (below_step (be_ HB) hb); have n1_ := Aside0.mk (hbox); have n2_ := gw_ HB hg; have n3_ := gw_ HB hg; clear HB; have HB := n0_; have BK304 := n1_; have GW304 := n2_; have GE304 := n3_; clear n0_ n1_ n2_ n3_; clear hb hbox hg))
 (try simp only [Act.put, List.setIfInBounds_toArray, List.set_cons_zero, List.set_cons_succ])
 go_cut [31] (fun v31 wc => ∃ (kq : Nat) (x31_1 : Bool), v31 = .bool x31_1 ∧ Aside0 (spec_EtherOk.j0 kq x31_1 a0_0 a0_1 a0_2 a0_3 l0_4 = some r) ∧ Aside0 (kq ≤ k) ∧ Aside0 (wc.heap[gb304]? = some (.cells #[.int .i64 a0_0, .int .i64 a0_1, .int .i64 a0_2, .int .i64 a0_3, (.slice A0_4 l0_4.length c0_4)] 32 (0, 0))) ∧ Aside0 (Below w.heap.size w wc))
 case first =>
  have H := HC2.out
  clear HC2
  by_cases c4 : a0_0 < 0
  ·rw [if_pos c4] at H
   have c4b0 : decide (a0_0 < 0) = true := decide_eq_true c4
   clear c4
   (first | rw [c4b0] | (simp only [i64_w, i32_w]; rw [c4b0]) | skip)
   have H' := Aside0.mk H
   clear H; have hcz5_0 := bc_ BK304 0 (.int .i64 a0_0) rfl; have hcz5_1 := bc_ BK304 1 (.int .i64 a0_1) rfl; have hcz5_2 := bc_ BK304 2 (.int .i64 a0_2) rfl; have hcz5_3 := bc_ BK304 3 (.int .i64 a0_3) rfl; have hcz5_4 := bc_ BK304 4 (.slice A0_4 l0_4.length c0_4) rfl; have hfz5_0 := blk_frozen BK304.out 0; have hfz5_1 := blk_frozen BK304.out 1; have hfz5_2 := blk_frozen BK304.out 2; have hfz5_3 := blk_frozen BK304.out 3; have hfz5_4 := blk_frozen BK304.out 4
   go_wp2
   go_meet
   case rel => exact ⟨_, (true), (by first | rfl | (simp; done) | (simp [*]; done)), H', ⟨by first | omega | exact Nat.le_refl _⟩, ⟨bk_ BK304⟩, ⟨bf_ HB⟩⟩
  ·rw [if_neg c4] at H
   have c4b0 : decide (a0_0 < 0) = false := decide_eq_false c4
   clear c4
   (first | rw [c4b0] | (simp only [i64_w, i32_w]; rw [c4b0]) | skip)
   by_cases c6 : a0_0 > 281474976710655
   ·rw [if_pos c6] at H
    have c6b0 : decide (281474976710655 < a0_0) = true := decide_eq_true c6
    clear c6
    have H' := Aside0.mk H
    clear H; have hcz7_0 := bc_ BK304 0 (.int .i64 a0_0) rfl; have hcz7_1 := bc_ BK304 1 (.int .i64 a0_1) rfl; have hcz7_2 := bc_ BK304 2 (.int .i64 a0_2) rfl; have hcz7_3 := bc_ BK304 3 (.int .i64 a0_3) rfl; have hcz7_4 := bc_ BK304 4 (.slice A0_4 l0_4.length c0_4) rfl; have hfz7_0 := blk_frozen BK304.out 0; have hfz7_1 := blk_frozen BK304.out 1; have hfz7_2 := blk_frozen BK304.out 2; have hfz7_3 := blk_frozen BK304.out 3; have hfz7_4 := blk_frozen BK304.out 4
    go_wp2
    go_meet
    case rel => exact ⟨_, (true), (by first | rfl | (simp; done) | (simp [*]; done)), H', ⟨by first | omega | exact Nat.le_refl _⟩, ⟨bk_ BK304⟩, ⟨bf_ HB⟩⟩
   ·rw [if_neg c6] at H
    have c6b0 : decide (281474976710655 < a0_0) = false := decide_eq_false c6
    clear c6
    by_cases c8 : a0_1 < 0
    ·rw [if_pos c8] at H
     have c8b0 : decide (a0_1 < 0) = true := decide_eq_true c8
     clear c8
     have H' := Aside0.mk H
     clear H; have hcz9_0 := bc_ BK304 0 (.int .i64 a0_0) rfl; have hcz9_1 := bc_ BK304 1 (.int .i64 a0_1) rfl; have hcz9_2 := bc_ BK304 2 (.int .i64 a0_2) rfl; have hcz9_3 := bc_ BK304 3 (.int .i64 a0_3) rfl; have hcz9_4 := bc_ BK304 4 (.slice A0_4 l0_4.length c0_4) rfl; have hfz9_0 := blk_frozen BK304.out 0; have hfz9_1 := blk_frozen BK304.out 1; have hfz9_2 := blk_frozen BK304.out 2; have hfz9_3 := blk_frozen BK304.out 3; have hfz9_4 := blk_frozen BK304.out 4
     go_wp2
     go_meet
     case rel => exact ⟨_, (true), (by first | rfl | (simp; done) | (simp [*]; done)), H', ⟨by first | omega | exact Nat.le_refl _⟩, ⟨bk_ BK304⟩, ⟨bf_ HB⟩⟩
    ·rw [if_neg c8] at H
     have c8b0 : decide (a0_1 < 0) = false := decide_eq_false c8
     clear c8
     by_cases c10 : a0_1 > 281474976710655
     ·rw [if_pos c10] at H
      have c10b0 : decide (281474976710655 < a0_1) = true := decide_eq_true c10
      clear c10
      have H' := Aside0.mk H
      clear H; have hcz11_0 := bc_ BK304 0 (.int .i64 a0_0) rfl; have hcz11_1 := bc_ BK304 1 (.int .i64 a0_1) rfl; have hcz11_2 := bc_ BK304 2 (.int .i64 a0_2) rfl; have hcz11_3 := bc_ BK304 3 (.int .i64 a0_3) rfl; have hcz11_4 := bc_ BK304 4 (.slice A0_4 l0_4.length c0_4) rfl; have hfz11_0 := blk_frozen BK304.out 0; have hfz11_1 := blk_frozen BK304.out 1; have hfz11_2 := blk_frozen BK304.out 2; have hfz11_3 := blk_frozen BK304.out 3; have hfz11_4 := blk_frozen BK304.out 4
      go_wp2
      go_meet
      case rel => exact ⟨_, (true), (by first | rfl | (simp; done) | (simp [*]; done)), H', ⟨by first | omega | exact Nat.le_refl _⟩, ⟨bk_ BK304⟩, ⟨bf_ HB⟩⟩
     ·rw [if_neg c10] at H
      have c10b0 : decide (281474976710655 < a0_1) = false := decide_eq_false c10
      clear c10
      by_cases c12 : a0_2 < (-1)
      ·rw [if_pos c12] at H
       have c12b0 : decide (a0_2 < (-1)) = true := decide_eq_true c12
       clear c12
       have H' := Aside0.mk H
       clear H; have hcz13_0 := bc_ BK304 0 (.int .i64 a0_0) rfl; have hcz13_1 := bc_ BK304 1 (.int .i64 a0_1) rfl; have hcz13_2 := bc_ BK304 2 (.int .i64 a0_2) rfl; have hcz13_3 := bc_ BK304 3 (.int .i64 a0_3) rfl; have hcz13_4 := bc_ BK304 4 (.slice A0_4 l0_4.length c0_4) rfl; have hfz13_0 := blk_frozen BK304.out 0; have hfz13_1 := blk_frozen BK304.out 1; have hfz13_2 := blk_frozen BK304.out 2; have hfz13_3 := blk_frozen BK304.out 3; have hfz13_4 := blk_frozen BK304.out 4
       go_wp2
       go_meet
       case rel => exact ⟨_, (true), (by first | rfl | (simp; done) | (simp [*]; done)), H', ⟨by first | omega | exact Nat.le_refl _⟩, ⟨bk_ BK304⟩, ⟨bf_ HB⟩⟩
      ·rw [if_neg c12] at H
       have c12b0 : decide (a0_2 < (-1)) = false := decide_eq_false c12
       clear c12
       have H' := Aside0.mk H
       clear H; have hcz14_0 := bc_ BK304 0 (.int .i64 a0_0) rfl; have hcz14_1 := bc_ BK304 1 (.int .i64 a0_1) rfl; have hcz14_2 := bc_ BK304 2 (.int .i64 a0_2) rfl; have hcz14_3 := bc_ BK304 3 (.int .i64 a0_3) rfl; have hcz14_4 := bc_ BK304 4 (.slice A0_4 l0_4.length c0_4) rfl; have hfz14_0 := blk_frozen BK304.out 0; have hfz14_1 := blk_frozen BK304.out 1; have hfz14_2 := blk_frozen BK304.out 2; have hfz14_3 := blk_frozen BK304.out 3; have hfz14_4 := blk_frozen BK304.out 4
       go_wp2
       go_meet
       case rel => exact ⟨_, (decide (a0_2 > 65535)), (by first | rfl | (simp; done) | (simp [*]; done)), H', ⟨by first | omega | exact Nat.le_refl _⟩, ⟨bk_ BK304⟩, ⟨bf_ HB⟩⟩
 case rest =>
  clear HC2; (try clear c1); (try clear p2); (try clear c4); (try clear c4b0); (try clear c6); (try clear c6b0); (try clear c8); (try clear c8b0); (try clear c10); (try clear c10b0); (try clear c12); (try clear c12b0); (try clear hcz11_0 hcz11_1 hcz11_2 hcz11_3 hcz11_4 hfz11_0 hfz11_1 hfz11_2 hfz11_3 hfz11_4); (try clear hcz13_0 hcz13_1 hcz13_2 hcz13_3 hcz13_4 hfz13_0 hfz13_1 hfz13_2 hfz13_3 hfz13_4); (try clear hcz14_0 hcz14_1 hcz14_2 hcz14_3 hcz14_4 hfz14_0 hfz14_1 hfz14_2 hfz14_3 hfz14_4); (try clear hcz5_0 hcz5_1 hcz5_2 hcz5_3 hcz5_4 hfz5_0 hfz5_1 hfz5_2 hfz5_3 hfz5_4); (try clear hcz7_0 hcz7_1 hcz7_2 hcz7_3 hcz7_4 hfz7_0 hfz7_1 hfz7_2 hfz7_3 hfz7_4); (try clear hcz9_0 hcz9_1 hcz9_2 hcz9_3 hcz9_4 hfz9_0 hfz9_1 hfz9_2 hfz9_3 hfz9_4)
  obtain ⟨kq, x31_1, rfl, HA, HJ1, BK304, HB⟩ := hcut
  cases kq with
  | zero => exact absurd HA.out (by simp [spec_EtherOk.j0])
  | succ kj1 =>
   have H := HA.out
   clear HA
   simp only [spec_EtherOk.j0] at H
   by_cases c15 : x31_1 = true
   ·subst c15
    have H1 : (some false) = some r := by rw [if_pos rfl] at H; exact H
    clear H
    have H := H1
    clear H1
    obtain rfl := Option.some.inj H
    go_wp2
    go_ret
    exact ⟨by first | rfl | (simp [errW_none, errW_some] <;> rfl) | (simp [*, errW_none, errW_some] <;> rfl), bf_ HB⟩
   ·replace c15 := Bool.eq_false_iff.mpr c15
    subst c15
    have H1 : (if a0_2 ≥ 0 then (if a0_3 ≥ 1536 then (if a0_3 ≤ 65535 then (if a0_3 = 33024 then (some false) else (some (decide ((l0_4.length : Int) ≤ (1600 - 18))))) else (some false)) else (some false)) else (if a0_3 ≥ 1536 then (if a0_3 ≤ 65535 then (if a0_3 = 33024 then (some false) else (some (decide ((l0_4.length : Int) ≤ (1600 - 14))))) else (some false)) else (some false))) = some r := by rw [if_neg (show ¬ (false = true) by decide)] at H; exact H
    clear H
    have H := H1
    clear H1
    by_cases c16 : a0_2 ≥ 0
    ·rw [if_pos c16] at H
     have c16b0 : decide (0 ≤ a0_2) = true := decide_eq_true c16
     clear c16
     by_cases c17 : a0_3 ≥ 1536
     ·rw [if_pos c17] at H
      have c17b0 : decide (1536 ≤ a0_3) = true := decide_eq_true c17
      clear c17
      by_cases c18 : a0_3 ≤ 65535
      ·rw [if_pos c18] at H
       have c18b0 : decide (a0_3 ≤ 65535) = true := decide_eq_true c18
       clear c18
       by_cases c19 : a0_3 = 33024
       ·rw [if_pos c19] at H
        have c19b0 : (a0_3 == 33024) = true := beq_iff_eq.mpr c19
        have c19b1 : (a0_3 != 33024) = false := bne_eq_false_iff_eq.mpr c19
        clear c19
        obtain rfl := Option.some.inj H
        have hcz20_0 := bc_ BK304 0 (.int .i64 a0_0) rfl; have hcz20_1 := bc_ BK304 1 (.int .i64 a0_1) rfl; have hcz20_2 := bc_ BK304 2 (.int .i64 a0_2) rfl; have hcz20_3 := bc_ BK304 3 (.int .i64 a0_3) rfl; have hcz20_4 := bc_ BK304 4 (.slice A0_4 l0_4.length c0_4) rfl; have hfz20_0 := blk_frozen BK304.out 0; have hfz20_1 := blk_frozen BK304.out 1; have hfz20_2 := blk_frozen BK304.out 2; have hfz20_3 := blk_frozen BK304.out 3; have hfz20_4 := blk_frozen BK304.out 4
        go_wp2
        go_ret
        exact ⟨by first | rfl | (simp [errW_none, errW_some] <;> rfl) | (simp [*, errW_none, errW_some] <;> rfl), bf_ HB⟩
       ·rw [if_neg c19] at H
        have c19b0 : (a0_3 == 33024) = false := beq_eq_false_iff_ne.mpr c19
        have c19b1 : (a0_3 != 33024) = true := bne_iff_ne.mpr c19
        obtain rfl := Option.some.inj H
        have hcz21_0 := bc_ BK304 0 (.int .i64 a0_0) rfl; have hcz21_1 := bc_ BK304 1 (.int .i64 a0_1) rfl; have hcz21_2 := bc_ BK304 2 (.int .i64 a0_2) rfl; have hcz21_3 := bc_ BK304 3 (.int .i64 a0_3) rfl; have hcz21_4 := bc_ BK304 4 (.slice A0_4 l0_4.length c0_4) rfl; have hfz21_0 := blk_frozen BK304.out 0; have hfz21_1 := blk_frozen BK304.out 1; have hfz21_2 := blk_frozen BK304.out 2; have hfz21_3 := blk_frozen BK304.out 3; have hfz21_4 := blk_frozen BK304.out 4
        go_wp2
        go_ret
        exact ⟨by first | rfl | (simp [errW_none, errW_some] <;> rfl) | (simp [*, errW_none, errW_some] <;> rfl), bf_ HB⟩
      ·rw [if_neg c18] at H
       have c18b0 : decide (a0_3 ≤ 65535) = false := decide_eq_false c18
       clear c18
       obtain rfl := Option.some.inj H
       have hcz22_0 := bc_ BK304 0 (.int .i64 a0_0) rfl; have hcz22_1 := bc_ BK304 1 (.int .i64 a0_1) rfl; have hcz22_2 := bc_ BK304 2 (.int .i64 a0_2) rfl; have hcz22_3 := bc_ BK304 3 (.int .i64 a0_3) rfl; have hcz22_4 := bc_ BK304 4 (.slice A0_4 l0_4.length c0_4) rfl; have hfz22_0 := blk_frozen BK304.out 0; have hfz22_1 := blk_frozen BK304.out 1; have hfz22_2 := blk_frozen BK304.out 2; have hfz22_3 := blk_frozen BK304.out 3; have hfz22_4 := blk_frozen BK304.out 4
       go_wp2
       go_ret
       exact ⟨by first | rfl | (simp [errW_none, errW_some] <;> rfl) | (simp [*, errW_none, errW_some] <;> rfl), bf_ HB⟩
     ·rw [if_neg c17] at H
      have c17b0 : decide (1536 ≤ a0_3) = false := decide_eq_false c17
      clear c17
      obtain rfl := Option.some.inj H
      have hcz23_0 := bc_ BK304 0 (.int .i64 a0_0) rfl; have hcz23_1 := bc_ BK304 1 (.int .i64 a0_1) rfl; have hcz23_2 := bc_ BK304 2 (.int .i64 a0_2) rfl; have hcz23_3 := bc_ BK304 3 (.int .i64 a0_3) rfl; have hcz23_4 := bc_ BK304 4 (.slice A0_4 l0_4.length c0_4) rfl; have hfz23_0 := blk_frozen BK304.out 0; have hfz23_1 := blk_frozen BK304.out 1; have hfz23_2 := blk_frozen BK304.out 2; have hfz23_3 := blk_frozen BK304.out 3; have hfz23_4 := blk_frozen BK304.out 4
      go_wp2
      go_ret
      exact ⟨by first | rfl | (simp [errW_none, errW_some] <;> rfl) | (simp [*, errW_none, errW_some] <;> rfl), bf_ HB⟩
    ·rw [if_neg c16] at H
     have c16b0 : decide (0 ≤ a0_2) = false := decide_eq_false c16
     clear c16
     by_cases c24 : a0_3 ≥ 1536
     ·rw [if_pos c24] at H
      have c24b0 : decide (1536 ≤ a0_3) = true := decide_eq_true c24
      clear c24
      by_cases c25 : a0_3 ≤ 65535
      ·rw [if_pos c25] at H
       have c25b0 : decide (a0_3 ≤ 65535) = true := decide_eq_true c25
       clear c25
       by_cases c26 : a0_3 = 33024
       ·rw [if_pos c26] at H
        have c26b0 : (a0_3 == 33024) = true := beq_iff_eq.mpr c26
        have c26b1 : (a0_3 != 33024) = false := bne_eq_false_iff_eq.mpr c26
        clear c26
        obtain rfl := Option.some.inj H
        have hcz27_0 := bc_ BK304 0 (.int .i64 a0_0) rfl; have hcz27_1 := bc_ BK304 1 (.int .i64 a0_1) rfl; have hcz27_2 := bc_ BK304 2 (.int .i64 a0_2) rfl; have hcz27_3 := bc_ BK304 3 (.int .i64 a0_3) rfl; have hcz27_4 := bc_ BK304 4 (.slice A0_4 l0_4.length c0_4) rfl; have hfz27_0 := blk_frozen BK304.out 0; have hfz27_1 := blk_frozen BK304.out 1; have hfz27_2 := blk_frozen BK304.out 2; have hfz27_3 := blk_frozen BK304.out 3; have hfz27_4 := blk_frozen BK304.out 4
        go_wp2
        go_ret
        exact ⟨by first | rfl | (simp [errW_none, errW_some] <;> rfl) | (simp [*, errW_none, errW_some] <;> rfl), bf_ HB⟩
       ·rw [if_neg c26] at H
        have c26b0 : (a0_3 == 33024) = false := beq_eq_false_iff_ne.mpr c26
        have c26b1 : (a0_3 != 33024) = true := bne_iff_ne.mpr c26
        obtain rfl := Option.some.inj H
        have hcz28_0 := bc_ BK304 0 (.int .i64 a0_0) rfl; have hcz28_1 := bc_ BK304 1 (.int .i64 a0_1) rfl; have hcz28_2 := bc_ BK304 2 (.int .i64 a0_2) rfl; have hcz28_3 := bc_ BK304 3 (.int .i64 a0_3) rfl; have hcz28_4 := bc_ BK304 4 (.slice A0_4 l0_4.length c0_4) rfl; have hfz28_0 := blk_frozen BK304.out 0; have hfz28_1 := blk_frozen BK304.out 1; have hfz28_2 := blk_frozen BK304.out 2; have hfz28_3 := blk_frozen BK304.out 3; have hfz28_4 := blk_frozen BK304.out 4
        go_wp2
        go_ret
        exact ⟨by first | rfl | (simp [errW_none, errW_some] <;> rfl) | (simp [*, errW_none, errW_some] <;> rfl), bf_ HB⟩
      ·rw [if_neg c25] at H
       have c25b0 : decide (a0_3 ≤ 65535) = false := decide_eq_false c25
       clear c25
       obtain rfl := Option.some.inj H
       have hcz29_0 := bc_ BK304 0 (.int .i64 a0_0) rfl; have hcz29_1 := bc_ BK304 1 (.int .i64 a0_1) rfl; have hcz29_2 := bc_ BK304 2 (.int .i64 a0_2) rfl; have hcz29_3 := bc_ BK304 3 (.int .i64 a0_3) rfl; have hcz29_4 := bc_ BK304 4 (.slice A0_4 l0_4.length c0_4) rfl; have hfz29_0 := blk_frozen BK304.out 0; have hfz29_1 := blk_frozen BK304.out 1; have hfz29_2 := blk_frozen BK304.out 2; have hfz29_3 := blk_frozen BK304.out 3; have hfz29_4 := blk_frozen BK304.out 4
       go_wp2
       go_ret
       exact ⟨by first | rfl | (simp [errW_none, errW_some] <;> rfl) | (simp [*, errW_none, errW_some] <;> rfl), bf_ HB⟩
     ·rw [if_neg c24] at H
      have c24b0 : decide (1536 ≤ a0_3) = false := decide_eq_false c24
      clear c24
      obtain rfl := Option.some.inj H
      have hcz30_0 := bc_ BK304 0 (.int .i64 a0_0) rfl; have hcz30_1 := bc_ BK304 1 (.int .i64 a0_1) rfl; have hcz30_2 := bc_ BK304 2 (.int .i64 a0_2) rfl; have hcz30_3 := bc_ BK304 3 (.int .i64 a0_3) rfl; have hcz30_4 := bc_ BK304 4 (.slice A0_4 l0_4.length c0_4) rfl; have hfz30_0 := blk_frozen BK304.out 0; have hfz30_1 := blk_frozen BK304.out 1; have hfz30_2 := blk_frozen BK304.out 2; have hfz30_3 := blk_frozen BK304.out 3; have hfz30_4 := blk_frozen BK304.out 4
      go_wp2
      go_ret
      exact ⟨by first | rfl | (simp [errW_none, errW_some] <;> rfl) | (simp [*, errW_none, errW_some] <;> rfl), bf_ HB⟩

/-! ### impl_beOf: function 65 -/
def impl_beOf.l0 : Nat → Int → List Int → Int → Int → Option (Int)
  | 0, _, _, _, _ => none
  | k + 1, x3, x6, x7, x8 => if x8 < x7 then (if 0 ≤ x8 then (if x8 < (x6.length : Int) then (impl_beOf.l0 k (Go.bits .or .i64 (wrap64 (x3 * 256)) (wrap64 (rd x6 x8))) x6 x7 (wrap64 (x8 + 1))) else (none)) else (none)) else (some x3)
def impl_beOf.f (k : Nat) (l0 : List Int) : Option (Int) := impl_beOf.l0 k 0 l0 (l0.length : Int) 0
theorem impl_beOf.mono_l : ∀ k, (∀ y0 y1 y2 y3, LeO (impl_beOf.l0 k y0 y1 y2 y3) (impl_beOf.l0 (k + 1) y0 y1 y2 y3))
 | 0 => fun _ _ _ _ r h => by simp [impl_beOf.l0] at h
 | k + 1 => by
  have ih0 := impl_beOf.mono_l k
  ·intro y0 y1 y2 y3
   unfold impl_beOf.l0
   repeat' first
   | (with_reducible exact ih0 _ _ _ _)
   | (with_reducible exact LeO.refl _)
   | (with_reducible exact LeO.none _)
   | (with_reducible refine LeO.ite ?_ ?_)
   | (with_reducible refine LeO.bind ?_ (fun _ => ?_))
   | exact ih0 _ _ _ _
   | exact LeO.none _
   | refine LeO.ite ?_ ?_
   | refine LeO.bind ?_ (fun _ => ?_)
theorem impl_beOf.mono : ∀ a0 k, LeO (impl_beOf.f k a0) (impl_beOf.f (k + 1) a0) := by
 intro a0 k
 have ih0 := impl_beOf.mono_l k
 unfold impl_beOf.f
 repeat' first
   | (with_reducible exact ih0 _ _ _ _)
   | (with_reducible exact LeO.refl _)
   | (with_reducible exact LeO.none _)
   | (with_reducible refine LeO.ite ?_ ?_)
   | (with_reducible refine LeO.bind ?_ (fun _ => ?_))
   | exact ih0 _ _ _ _
   | exact LeO.none _
   | refine LeO.ite ?_ ?_
   | refine LeO.bind ?_ (fun _ => ?_)
set_option maxHeartbeats 8000000 in
set_option maxRecDepth 100000 in
theorem impl_beOf.calls (k : Nat) (A0 : Option Addr) (c0 : Nat) (l0 : List Int) (r : Int) (w : World) (hr0 : Kd.C (Kd.int .u8) w A0 l0.length l0) (hc0 : l0.length ≤ c0) (h : impl_beOf.f k l0 = some r) :
  Calls Try.prog 65 #[.slice A0 l0.length c0] w fun e w' => e = .returned (.int .i64 r) ∧ Drawn0 w w' := by
 have HR0 := Aside0.mk hr0
 have HC0 := Aside0.mk hc0
 clear hr0 hc0
 have H : (impl_beOf.l0 k 0 l0 (l0.length : Int) 0) = some r := h
 clear h
 have H' := Aside0.mk H
 clear H
 go_enter Try.func65, Try.ntmps65
 go_wp2
 go_loopg [3, 8] k (fun kq v3 v8 w' => ∃ (x3_1 : Int) (x8_1 : Int), v3 = .int .i64 x3_1 ∧ v8 = .int .i64 x8_1 ∧ Aside0 (impl_beOf.l0 kq x3_1 l0 (l0.length : Int) x8_1 = some r) ∧ Aside0 (kq ≤ k) ∧ Drawn0 w w')
 case atStart => exact ⟨(0), (0), (by first | rfl | (simp; done) | (simp [*]; done)), (by first | rfl | (simp; done) | (simp [*]; done)), H', ⟨Nat.le_refl _⟩, by repeat (first | exact Drawn0.refl _ | apply Drawn0.step)⟩
 case round =>
  clear H'
  obtain ⟨x3_1, x8_1, rfl, rfl, HA, HK1, ⟨m1, rfl⟩⟩ := hrel
  cases gk with
  | zero => exact absurd HA.out (by simp [impl_beOf.l0])
  | succ k1 =>
   have H := HA.out
   clear HA
   simp only [impl_beOf.l0] at H
   by_cases c2 : x8_1 < (l0.length : Int)
   ·rw [if_pos c2] at H
    have c2b0 : decide (x8_1 < (l0.length : Int)) = true := decide_eq_true c2
    clear c2
    by_cases c3 : 0 ≤ x8_1
    ·rw [if_pos c3] at H
     have c3b0 : decide (0 ≤ x8_1) = true := decide_eq_true c3
     clear c3
     by_cases c4 : x8_1 < (l0.length : Int)
     ·rw [if_pos c4] at H
      have c4b0 : decide (x8_1 < (l0.length : Int)) = true := decide_eq_true c4
      clear c4
      have H' := Aside0.mk H
      clear H
      have p305 : 0 ≤ (x8_1 : Int) := of_decide_eq_true (by first | (with_reducible assumption) | assumption)
      have q305 : x8_1 < (l0.length : Int) := of_decide_eq_true (by first | (with_reducible assumption) | assumption)
      obtain ⟨ad305, e305, hx305_0⟩ := Kd.at_int HR0.out x8_1 p305 q305
      cases e305
      replace p305 := eq_true p305
      replace q305 := eq_true q305
      go_wp2
      go_roundg k1
      case measure => have := HK1.out; omega
      case rel => exact ⟨(Go.bits .or .i64 (wrap64 (x3_1 * 256)) (wrap64 (rd l0 x8_1))), (wrap64 (x8_1 + 1)), (by first | rfl | (simp; done) | (simp [*]; done)), (by first | rfl | (simp; done) | (simp [*]; done)), H', ⟨by have := HK1.out; omega⟩, by repeat (first | exact Drawn0.refl _ | apply Drawn0.step)⟩
     ·rw [if_neg c4] at H
      exact absurd H (by simp)
    ·rw [if_neg c3] at H
     exact absurd H (by simp)
   ·rw [if_neg c2] at H
    have c2b0 : decide (x8_1 < (l0.length : Int)) = false := decide_eq_false c2
    clear c2
    obtain rfl := Option.some.inj H
    go_wp2
    go_ret
    exact ⟨by first | rfl | (simp; done) | (simp [*]; done), by repeat (first | exact Drawn0.refl _ | apply Drawn0.step)⟩

end Go.Proofs.Ytpoiljfjddehcaa.PFnEtherBack
