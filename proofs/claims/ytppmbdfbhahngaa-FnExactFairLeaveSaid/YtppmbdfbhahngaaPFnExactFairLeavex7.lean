-- printed by a program of this session (wip/printx) out of the translation; Lean checks it
import Derived.Test.YtppmbdfbhahngaaVFnExactFairLeave
import Derived.Test.YtppmbdfbhahngaaPFnExactFairLeavex0
import Derived.Test.YtppmbdfbhahngaaPFnExactFairLeavex5
import Derived.Test.YtppmbdfbhahngaaPFnExactFairLeavex6
namespace Go.Proofs.Ytppmbdfbhahngaa.PFnExactFairLeave
open Go.RowKit Go.Proofs.YtppmbdfbhahngaaW.PrintWords Go.Proofs.YtppmbdfbhahngaaW.PrintLast Go.Proofs.YtppmbdfbhahngaaW.PrintMore
attribute [local go_sem] max2_int min2_int max_two min_two max_three min_three max_four min_four   -- for this text's walks alone
set_option linter.unusedVariables false
set_option linter.unusedSimpArgs false

/-! ### impl_FairOk: function 21 -/
mutual
def impl_FairOk.j0 : Nat → Bool → Int → Int → Int → Int → List (S46) → Option (Bool)
  | 0, _, _, _, _, _, _ => none
  | k + 1, x22, x214000, x214001, x214002, x214003, x214004 => if x22 = true then (some false) else (impl_FairOk.l0 k x214004 (x214004.length : Int) 0 x214000 x214001 x214002 x214003 x214004)
def impl_FairOk.l0 : Nat → List (S46) → Int → Int → Int → Int → Int → Int → List (S46) → Option (Bool)
  | 0, _, _, _, _, _, _, _, _ => none
  | k + 1, x24, x25, x26, x214000, x214001, x214002, x214003, x214004 => if x26 < x25 then (if 0 ≤ x26 then (if x26 < (x24.length : Int) then ((impl_Fair_kidOk.f x214000 x214001 x214002 x214003 x214004 ((rd_T46 x24 x26).f0) ((rd_T46 x24 x26).f1) ((rd_T46 x24 x26).f2) ((rd_T46 x24 x26).f3.f0) ((rd_T46 x24 x26).f3.f1) ((rd_T46 x24 x26).f3.f2)).bind fun t218 => (if t218 = true then (if x26 > 0 then (if 0 ≤ (wrap64 (x26 - 1)) then (if (wrap64 (x26 - 1)) < (x214004.length : Int) then (if ((rd_T46 x214004 (wrap64 (x26 - 1))).f0) ≥ ((rd_T46 x24 x26).f0) then (some false) else (impl_FairOk.l0 k x24 x25 (wrap64 (x26 + 1)) x214000 x214001 x214002 x214003 x214004)) else (none)) else (none)) else (impl_FairOk.l0 k x24 x25 (wrap64 (x26 + 1)) x214000 x214001 x214002 x214003 x214004)) else (some false))) else (none)) else (none)) else (some true)
end
def impl_FairOk.f (k : Nat) (a0_0 : Int) (a0_1 : Int) (a0_2 : Int) (a0_3 : Int) (l0_4 : List (S46)) : Option (Bool) := (impl_Narrow.f a0_1 a0_2 a0_3 a0_0).bind fun t214 => (if t214 = true then ((impl_VecTop.f a0_1 a0_2 a0_3).bind fun t215 => (if t215 > 100000000000 then (impl_FairOk.j0 k true a0_0 a0_1 a0_2 a0_3 l0_4) else (impl_FairOk.j0 k (decide ((l0_4.length : Int) > 48)) a0_0 a0_1 a0_2 a0_3 l0_4))) else (impl_FairOk.j0 k true a0_0 a0_1 a0_2 a0_3 l0_4))
theorem impl_FairOk.mono_l : ∀ k, (∀ y0 y1 y2 y3 y4 y5, LeO (impl_FairOk.j0 k y0 y1 y2 y3 y4 y5) (impl_FairOk.j0 (k + 1) y0 y1 y2 y3 y4 y5)) ∧ (∀ y0 y1 y2 y3 y4 y5 y6 y7, LeO (impl_FairOk.l0 k y0 y1 y2 y3 y4 y5 y6 y7) (impl_FairOk.l0 (k + 1) y0 y1 y2 y3 y4 y5 y6 y7))
 | 0 => ⟨fun _ _ _ _ _ _ r h => by simp [impl_FairOk.j0] at h, fun _ _ _ _ _ _ _ _ r h => by simp [impl_FairOk.l0] at h⟩
 | k + 1 => by
  obtain ⟨ih0, ih1⟩ := impl_FairOk.mono_l k
  refine ⟨?_, ?_⟩ <;> intros <;> (first | unfold impl_FairOk.j0 | unfold impl_FairOk.l0) <;> repeat' (first | (with_reducible exact ih0 ..) | (with_reducible exact ih1 ..) | (with_reducible exact LeO.refl _) | (with_reducible exact LeO.none _) | (with_reducible refine LeO.ite ?_ ?_) | (with_reducible refine LeO.bind ?_ (fun _ => ?_)) | exact ih0 .. | exact ih1 .. | exact LeO.none _ | refine LeO.ite ?_ ?_ | refine LeO.bind ?_ (fun _ => ?_))
theorem impl_FairOk.mono : ∀ a0 a1 a2 a3 a4 k, LeO (impl_FairOk.f k a0 a1 a2 a3 a4) (impl_FairOk.f (k + 1) a0 a1 a2 a3 a4) := by
 intro a0 a1 a2 a3 a4 k
 obtain ⟨ih0, ih1⟩ := impl_FairOk.mono_l k
 unfold impl_FairOk.f
 repeat' (first | (with_reducible exact ih0 ..) | (with_reducible exact ih1 ..) | (with_reducible exact LeO.refl _) | (with_reducible exact LeO.none _) | (with_reducible refine LeO.ite ?_ ?_) | (with_reducible refine LeO.bind ?_ (fun _ => ?_)) | exact ih0 .. | exact ih1 .. | exact LeO.none _ | refine LeO.ite ?_ ?_ | refine LeO.bind ?_ (fun _ => ?_))
def impl_FairOk.T6 : Bool × List (List Nat × List Nat) := (true, [([], []), ([], []), ([0, 1], [0, 1]), ([2], [2]), ([3, 2], [3]), ([4], [4]), ([5, 4], [4, 5]), ([6, 4, 4], [4, 6]), ([7], [7]), ([8, 7], [7, 8]), ([7], [7]), ([10, 7], [7, 10]), ([9, 11, 7], [7, 9, 11]), ([12, 7], [7, 12]), ([13, 7], [7, 13]), ([7], [7]), ([15, 7], [7, 15]), ([14, 16, 7], [7, 14, 16]), ([7, 17, 4], [4, 7, 17]), ([4, 18], [4, 18])])
def impl_FairOk.B6 : List Nat := [0, 0, 3, 7, 15, 31, 63, 127, 255, 511, 255, 1279, 4095, 8191, 16383, 255, 33023, 131071, 262143, 524287]
theorem impl_FairOk.tab6 : rtab .any (opsOf Try.f21 6) = impl_FairOk.T6 := by kernel_rfl
theorem impl_FairOk.bits6 : waitsOk impl_FairOk.T6.2 impl_FairOk.B6 = true := by kernel_rfl
set_option maxHeartbeats 8000000 in
set_option maxRecDepth 100000 in
theorem impl_FairOk.calls (k : Nat) (a0_0 : Int) (a0_1 : Int) (a0_2 : Int) (a0_3 : Int) (A0_4 : Option Addr) (c0_4 : Nat) (l0_4 : List (S46)) (r : Bool) (w : World) (hr0_4 : Kd.C k46 w A0_4 l0_4.length l0_4) (hc0_4 : l0_4.length ≤ c0_4) (h : impl_FairOk.f k a0_0 a0_1 a0_2 a0_3 l0_4 = some r) :
  Calls Try.prog 21 #[.agg #[.int .i64 a0_0, .int .i64 a0_1, .int .i64 a0_2, .int .i64 a0_3, .slice A0_4 l0_4.length c0_4]] w fun e w' => e = .returned (.bool r) ∧ Below w.heap.size w w' := by
 have hu31 := Try.underlying31; have hu28 := Try.underlying28; have hu46 := Try.underlying46
 have HR0_4 := Aside0.mk hr0_4
 have HC0_4 := Aside0.mk hc0_4
 clear hr0_4 hc0_4; have HB := Aside0.mk (Below.refl w.heap.size w)
 have H := h
 clear h
 unfold impl_FairOk.f at H
 have HC2 := Aside0.mk H
 clear H
 go_enter Try.func21, Try.ntmps21
 go_upto_region 1 with (first | ((with_reducible refine gd_ 1 rfl ?_); (try (refine gate_guard (by rfl) ?_; dsimp only)); refine bv_ 1 #[.int .i64 a0_0, .int .i64 a0_1, .int .i64 a0_2, .int .i64 a0_3, .slice A0_4 l0_4.length c0_4] 31 ?_; intro gb213 hg w3 hbox hb; have BK213 := Aside0.mk (hbox); have GW213 := gw_ HB hg; have GE213 := gw_ HB hg; replace HB := Aside0.mk (below_step (be_ HB) hb); clear hb hbox hg))
 (try simp only [Act.put, ls0_, ls1_, ls2_])
 go_cut [22] (fun v22 wc => ∃ (kq : Nat) (x22_1 : Bool), v22 = .bool x22_1 ∧ Aside0 (impl_FairOk.j0 kq x22_1 a0_0 a0_1 a0_2 a0_3 l0_4 = some r) ∧ Aside0 (kq ≤ k) ∧ Aside0 (wc.heap[gb213]? = some (.cells #[.int .i64 a0_0, .int .i64 a0_1, .int .i64 a0_2, .int .i64 a0_3, (.slice A0_4 l0_4.length c0_4)] 31 (0, 0))) ∧ Aside0 (Below w.heap.size w wc))
 case first =>
  have H := HC2.out
  clear HC2
  replace H := Option.bind_eq_some_iff.mp H
  obtain ⟨t214, A40, H⟩ := H
  have A4 := Aside0.mk A40
  clear A40
  by_cases c5 : t214 = true
  ·subst c5
   rw [if_pos rfl] at H
   replace H := Option.bind_eq_some_iff.mp H
   obtain ⟨t215, A60, H⟩ := H
   have A6 := Aside0.mk A60
   clear A60
   by_cases c7 : t215 > 100000000000
   ·rw [if_pos c7] at H
    have c7b0 : decide (100000000000 < t215) = true := decide_eq_true c7
    clear c7
    (first | rw [c7b0] | (simp only [i64_w, i32_w]; rw [c7b0]) | skip)
    have H' := Aside0.mk H
    clear H; obtain ⟨hcz8_0, hcz8_1, hcz8_2, hcz8_3, hcz8_4, hfz8_0, hfz8_1, hfz8_2, hfz8_3, hfz8_4⟩ := bz5_ BK213
    go_wp2_with (first | ((with_reducible refine gc_ 51 rfl ?_); refine gl_ 9 Try.func51 #[.agg #[.int .i64 a0_1, .int .i64 a0_2, .int .i64 a0_3], .int .i64 a0_0] ?_; (with_reducible refine (impl_Narrow.calls a0_1 a0_2 a0_3 a0_0 true _ A4.out).mono ?_); rintro e w9 ⟨rfl, hb⟩; refine ⟨_, rfl, ?_⟩; replace BK213 := bb_ BK213 hb; replace HB := Aside0.mk (below_step (bf_ HB) hb); (try clear hb); (try clear hb2); (try clear hk); (try clear hi); obtain ⟨hcz10_0, hcz10_1, hcz10_2, hcz10_3, hcz10_4, hfz10_0, hfz10_1, hfz10_2, hfz10_3, hfz10_4⟩ := bz5_ BK213) | (go_at_call 52; (with_reducible refine (impl_VecTop.calls a0_1 a0_2 a0_3 t215 _ A6.out).mono ?_); rintro e w11 ⟨rfl, hb⟩; replace BK213 := bb_ BK213 hb; replace HB := Aside0.mk (below_step (bf_ HB) hb); (try clear hb); (try clear hb2); (try clear hk); (try clear hi)))
    go_meet
    case rel => exact ⟨_, (true), (by first | rfl | (simp; done) | (simp [*]; done)), H', ⟨by first | omega | exact Nat.le_refl _⟩, ⟨bk_ BK213⟩, ⟨bf_ HB⟩⟩
   ·rw [if_neg c7] at H
    have c7b0 : decide (100000000000 < t215) = false := decide_eq_false c7
    clear c7
    (first | rw [c7b0] | (simp only [i64_w, i32_w]; rw [c7b0]) | skip)
    have H' := Aside0.mk H
    clear H; obtain ⟨hcz12_0, hcz12_1, hcz12_2, hcz12_3, hcz12_4, hfz12_0, hfz12_1, hfz12_2, hfz12_3, hfz12_4⟩ := bz5_ BK213
    go_wp2_with (first | ((with_reducible refine gc_ 51 rfl ?_); refine gl_ 9 Try.func51 #[.agg #[.int .i64 a0_1, .int .i64 a0_2, .int .i64 a0_3], .int .i64 a0_0] ?_; (with_reducible refine (impl_Narrow.calls a0_1 a0_2 a0_3 a0_0 true _ A4.out).mono ?_); rintro e w13 ⟨rfl, hb⟩; refine ⟨_, rfl, ?_⟩; replace BK213 := bb_ BK213 hb; replace HB := Aside0.mk (below_step (bf_ HB) hb); (try clear hb); (try clear hb2); (try clear hk); (try clear hi); obtain ⟨hcz14_0, hcz14_1, hcz14_2, hcz14_3, hcz14_4, hfz14_0, hfz14_1, hfz14_2, hfz14_3, hfz14_4⟩ := bz5_ BK213) | (go_at_call 52; (with_reducible refine (impl_VecTop.calls a0_1 a0_2 a0_3 t215 _ A6.out).mono ?_); rintro e w15 ⟨rfl, hb⟩; replace BK213 := bb_ BK213 hb; replace HB := Aside0.mk (below_step (bf_ HB) hb); (try clear hb); (try clear hb2); (try clear hk); (try clear hi); obtain ⟨hcz16_0, hcz16_1, hcz16_2, hcz16_3, hcz16_4, hfz16_0, hfz16_1, hfz16_2, hfz16_3, hfz16_4⟩ := bz5_ BK213))
    go_meet
    case rel => exact ⟨_, (decide ((l0_4.length : Int) > 48)), (by first | rfl | (simp; done) | (simp [*]; done)), H', ⟨by first | omega | exact Nat.le_refl _⟩, ⟨bk_ BK213⟩, ⟨bf_ HB⟩⟩
  ·replace c5 := Bool.eq_false_iff.mpr c5
   subst c5
   rw [if_neg (show ¬ (false = true) by decide)] at H
   have H' := Aside0.mk H
   clear H; obtain ⟨hcz17_0, hcz17_1, hcz17_2, hcz17_3, hcz17_4, hfz17_0, hfz17_1, hfz17_2, hfz17_3, hfz17_4⟩ := bz5_ BK213
   go_wp2_with (first | ((with_reducible refine gc_ 51 rfl ?_); refine gl_ 9 Try.func51 #[.agg #[.int .i64 a0_1, .int .i64 a0_2, .int .i64 a0_3], .int .i64 a0_0] ?_; (with_reducible refine (impl_Narrow.calls a0_1 a0_2 a0_3 a0_0 false _ A4.out).mono ?_); rintro e w18 ⟨rfl, hb⟩; refine ⟨_, rfl, ?_⟩; replace BK213 := bb_ BK213 hb; replace HB := Aside0.mk (below_step (bf_ HB) hb); (try clear hb); (try clear hb2); (try clear hk); (try clear hi)))
   go_meet
   case rel => exact ⟨_, (true), (by first | rfl | (simp; done) | (simp [*]; done)), H', ⟨by first | omega | exact Nat.le_refl _⟩, ⟨bk_ BK213⟩, ⟨bf_ HB⟩⟩
 case rest =>
  clear HC2; (try clear c2); (try clear p2); (try clear c5); (try clear c7); (try clear c7b0); (try clear hcz10_0 hcz10_1 hcz10_2 hcz10_3 hcz10_4 hfz10_0 hfz10_1 hfz10_2 hfz10_3 hfz10_4); (try clear hcz12_0 hcz12_1 hcz12_2 hcz12_3 hcz12_4 hfz12_0 hfz12_1 hfz12_2 hfz12_3 hfz12_4); (try clear hcz14_0 hcz14_1 hcz14_2 hcz14_3 hcz14_4 hfz14_0 hfz14_1 hfz14_2 hfz14_3 hfz14_4); (try clear hcz16_0 hcz16_1 hcz16_2 hcz16_3 hcz16_4 hfz16_0 hfz16_1 hfz16_2 hfz16_3 hfz16_4); (try clear hcz17_0 hcz17_1 hcz17_2 hcz17_3 hcz17_4 hfz17_0 hfz17_1 hfz17_2 hfz17_3 hfz17_4); (try clear hcz8_0 hcz8_1 hcz8_2 hcz8_3 hcz8_4 hfz8_0 hfz8_1 hfz8_2 hfz8_3 hfz8_4)
  obtain ⟨kq, x22_1, rfl, HA, HJ1, BK213, HB⟩ := hcut
  cases kq with
  | zero => exact absurd HA.out (by simp [impl_FairOk.j0])
  | succ kj1 =>
   have H := HA.out
   clear HA
   simp only [impl_FairOk.j0] at H
   by_cases c19 : x22_1 = true
   ·subst c19
    rw [if_pos rfl] at H
    obtain rfl := Option.some.inj H
    go_wp2
    go_ret
    exact ⟨by first | rfl | (simp [errW_none, errW_some] <;> rfl) | (simp [*, errW_none, errW_some] <;> rfl), bf_ HB⟩
   ·replace c19 := Bool.eq_false_iff.mpr c19
    subst c19
    rw [if_neg (show ¬ (false = true) by decide)] at H
    have H' := Aside0.mk H
    clear H; obtain ⟨hcz20_0, hcz20_1, hcz20_2, hcz20_3, hcz20_4, hfz20_0, hfz20_1, hfz20_2, hfz20_3, hfz20_4⟩ := bz5_ BK213
    go_wp2
    go_loopg [26] kj1 (fun kq v26 w' => ∃ (x26_2 : Int), v26 = .int .i64 x26_2 ∧ Aside0 (impl_FairOk.l0 kq l0_4 (l0_4.length : Int) x26_2 a0_0 a0_1 a0_2 a0_3 l0_4 = some r) ∧ Aside0 (kq ≤ kj1) ∧ Aside0 (w'.heap[gb213]? = some (.cells #[.int .i64 a0_0, .int .i64 a0_1, .int .i64 a0_2, .int .i64 a0_3, (.slice A0_4 l0_4.length c0_4)] 31 (0, 0))) ∧ Aside0 (Below w.heap.size w w'))
    case atStart => exact ⟨(0), (by first | rfl | (simp; done) | (simp [*]; done)), H', ⟨Nat.le_refl _⟩, ⟨bk_ BK213⟩, ⟨bf_ HB⟩⟩
    case round =>
     clear H'
     (try clear c1); (try clear c2); (try clear p2 p2); (try clear c5); (try clear c7); (try clear c7b0); (try clear c19); (try clear hcz10_0 hcz10_1 hcz10_2 hcz10_3 hcz10_4 hfz10_0 hfz10_1 hfz10_2 hfz10_3 hfz10_4); (try clear hcz12_0 hcz12_1 hcz12_2 hcz12_3 hcz12_4 hfz12_0 hfz12_1 hfz12_2 hfz12_3 hfz12_4); (try clear hcz14_0 hcz14_1 hcz14_2 hcz14_3 hcz14_4 hfz14_0 hfz14_1 hfz14_2 hfz14_3 hfz14_4); (try clear hcz16_0 hcz16_1 hcz16_2 hcz16_3 hcz16_4 hfz16_0 hfz16_1 hfz16_2 hfz16_3 hfz16_4); (try clear hcz17_0 hcz17_1 hcz17_2 hcz17_3 hcz17_4 hfz17_0 hfz17_1 hfz17_2 hfz17_3 hfz17_4); (try clear hcz20_0 hcz20_1 hcz20_2 hcz20_3 hcz20_4 hfz20_0 hfz20_1 hfz20_2 hfz20_3 hfz20_4); (try clear hcz8_0 hcz8_1 hcz8_2 hcz8_3 hcz8_4 hfz8_0 hfz8_1 hfz8_2 hfz8_3 hfz8_4)
     obtain ⟨x26_2, rfl, HA, HK2, BK213, HB⟩ := hrel
     cases gk with
     | zero => exact absurd HA.out (by simp [impl_FairOk.l0])
     | succ k2 =>
      have H := HA.out
      clear HA
      simp only [impl_FairOk.l0] at H
      by_cases c21 : x26_2 < (l0_4.length : Int)
      ·rw [if_pos c21] at H
       have c21b0 : decide (x26_2 < (l0_4.length : Int)) = true := decide_eq_true c21
       clear c21
       by_cases c22 : 0 ≤ x26_2
       ·rw [if_pos c22] at H
        have c22b0 : decide (0 ≤ x26_2) = true := decide_eq_true c22
        clear c22
        by_cases c23 : x26_2 < (l0_4.length : Int)
        ·rw [if_pos c23] at H
         have c23b0 : decide (x26_2 < (l0_4.length : Int)) = true := decide_eq_true c23
         clear c23
         replace H := Option.bind_eq_some_iff.mp H
         obtain ⟨t218, A240, H⟩ := H
         have A24 := Aside0.mk A240
         clear A240
         by_cases c25 : t218 = true
         ·subst c25
          rw [if_pos rfl] at H
          by_cases c26 : x26_2 > 0
          ·rw [if_pos c26] at H
           have c26b0 : decide (0 < x26_2) = true := decide_eq_true c26
           clear c26
           obtain ⟨ji27, hji27⟩ : ∃ j_ : Int, (wrap64 (x26_2 - 1)) = j_ := ⟨_, rfl⟩
           replace H : (if 0 ≤ (ji27) then (if (ji27) < (l0_4.length : Int) then (if ((rd_T46 l0_4 (ji27)).f0) ≥ ((rd_T46 l0_4 x26_2).f0) then (some false) else (impl_FairOk.l0 k2 l0_4 (l0_4.length : Int) (wrap64 (x26_2 + 1)) a0_0 a0_1 a0_2 a0_3 l0_4)) else (none)) else (none)) = some r := by first | (rw [hji27] at H; exact H) | (simp only [hji27] at H ⊢; exact H)
           (try rw [hji27] at A24)
           have hji27w : (IntKind.i64.wrap (x26_2 - 1)) = ji27 := (i64_w _).trans hji27
           by_cases c28 : 0 ≤ (ji27)
           ·rw [if_pos c28] at H
            have c28b0 : decide (0 ≤ (ji27)) = true := decide_eq_true c28
            clear c28
            by_cases c29 : (ji27) < (l0_4.length : Int)
            ·rw [if_pos c29] at H
             have c29b0 : decide ((ji27) < (l0_4.length : Int)) = true := decide_eq_true c29
             clear c29
             by_cases c30 : ((rd_T46 l0_4 (ji27)).f0) ≥ ((rd_T46 l0_4 x26_2).f0)
             ·rw [if_pos c30] at H
              have c30b0 : decide (((rd_T46 l0_4 x26_2).f0) ≤ ((rd_T46 l0_4 (ji27)).f0)) = true := decide_eq_true c30
              clear c30
              obtain rfl := Option.some.inj H
              have p216 : 0 ≤ (x26_2 : Int) := od_
              have q216 : x26_2 < (l0_4.length : Int) := od_
              obtain ⟨ad216, e216, hx216_0, hx216_1, hx216_2, hx216_3, hx216_4, hx216_5⟩ := at_T46 HR0_4.out x26_2 p216 q216
              cases e216
              replace hx216_0 := hb_ HB hx216_0
              replace hx216_1 := hb_ HB hx216_1
              replace hx216_2 := hb_ HB hx216_2
              replace hx216_3 := hb_ HB hx216_3
              replace hx216_4 := hb_ HB hx216_4
              replace hx216_5 := hb_ HB hx216_5
              replace p216 := eq_true p216
              replace q216 := eq_true q216
              try go_wp2_with (first | ((with_reducible refine gd_ 4 rfl ?_); (try (refine gate_guard (by rfl) ?_; dsimp only)); refine bv_ 4 #[.int .i64 0, .int .i64 0, .bool false, .int .i64 0, .int .i64 0, .int .i64 0] 46 ?_; intro gb217 hg w31 hbox hb; have BK217 := Aside0.mk (hbox); have GW217 := gw_ HB hg; have GE217 := gw_ HB hg; replace HB := Aside0.mk (below_step (bf_ HB) hb); have NB213_217 := nl_ BK213 hg; have NB217_213 := ng_ BK213 hg; replace BK213 := bb_ BK213 hb; clear hb hbox hg; have hnb32 := NB217_213.out; have hnc32 := NB213_217.out; obtain ⟨hcz33_0, hcz33_1, hcz33_2, hcz33_3, hcz33_4, hcz33_5, hfz33_0, hfz33_1, hfz33_2, hfz33_3, hfz33_4, hfz33_5⟩ := bz6_ BK217))
              generalize hW_ : ((((((w31.setCell ⟨gb217, 0, none⟩ (.int .i64 ((rd_T46 l0_4 x26_2).f0))).setCell ⟨gb217, 1, none⟩ (.int .i64 ((rd_T46 l0_4 x26_2).f1))).setCell ⟨gb217, 2, none⟩ (.bool ((rd_T46 l0_4 x26_2).f2))).setCell ⟨gb217, 3, none⟩ (.int .i64 ((rd_T46 l0_4 x26_2).f3.f0))).setCell ⟨gb217, 4, none⟩ (.int .i64 ((rd_T46 l0_4 x26_2).f3.f1))).setCell ⟨gb217, 5, none⟩ (.int .i64 ((rd_T46 l0_4 x26_2).f3.f2))) = w34
              replace BK213 := fc6_ hW_ BK213 NB213_217
              replace BK217 : Aside0 (w34.heap[gb217]? = some (.cells #[.int .i64 ((rd_T46 l0_4 x26_2).f0), .int .i64 ((rd_T46 l0_4 x26_2).f1), .bool ((rd_T46 l0_4 x26_2).f2), .int .i64 ((rd_T46 l0_4 x26_2).f3.f0), .int .i64 ((rd_T46 l0_4 x26_2).f3.f1), .int .i64 ((rd_T46 l0_4 x26_2).f3.f2)] 46 (0, 0))) := pc6_ hW_ BK217
              replace HB : Aside0 (Below w.heap.size w w34) := ⟨by cases hW_; exact bf_ HB⟩
              clear hW_; replace BK213 := Aside0.mk (blk_drew BK213.out); replace BK217 := Aside0.mk (blk_drew BK217.out); replace HB := Aside0.mk (below_drew1 HB.out)
              have p219 : 0 ≤ ((ji27) : Int) := od_
              have q219 : (ji27) < (l0_4.length : Int) := od_
              obtain ⟨ad219, e219, hx219_0, hx219_1, hx219_2, hx219_3, hx219_4, hx219_5⟩ := at_T46 HR0_4.out (ji27) p219 q219
              have hw219_5 := hx219_5; have hw219_4 := hx219_4; have hw219_3 := hx219_3; have hw219_2 := hx219_2; have hw219_1 := hx219_1; have hw219_0 := hx219_0
              obtain rfl : ad216 = ad219 := (by injection e219)
              replace hx219_0 := hb_ HB hx219_0
              replace hx219_1 := hb_ HB hx219_1
              replace hx219_2 := hb_ HB hx219_2
              replace hx219_3 := hb_ HB hx219_3
              replace hx219_4 := hb_ HB hx219_4
              replace hx219_5 := hb_ HB hx219_5
              replace p219 := eq_true p219
              replace q219 := eq_true q219
              refine start_ (n := 20) (S := fun w' => cw_ w' gb213 0 (.int .i64 a0_0) ∧ cw_ w' gb213 1 (.int .i64 a0_1) ∧ cw_ w' gb213 2 (.int .i64 a0_2) ∧ cw_ w' gb213 3 (.int .i64 a0_3) ∧ cw_ w' gb213 4 (.slice (some ad216) l0_4.length c0_4) ∧ cw_ w' gb217 0 (.int .i64 ((rd_T46 l0_4 x26_2).f0)) ∧ cw_ w' gb217 1 (.int .i64 ((rd_T46 l0_4 x26_2).f1)) ∧ cw_ w' gb217 2 (.bool ((rd_T46 l0_4 x26_2).f2)) ∧ cw_ w' gb217 3 (.int .i64 ((rd_T46 l0_4 x26_2).f3.f0)) ∧ cw_ w' gb217 4 (.int .i64 ((rd_T46 l0_4 x26_2).f3.f1)) ∧ cw_ w' gb217 5 (.int .i64 ((rd_T46 l0_4 x26_2).f3.f2)) ∧ w'.cell? (ad216.add (((ji27)).toNat * 6)) = some (.int .i64 ((rd_T46 l0_4 (ji27)).f0)) ∧ w'.cell? ⟨(ad216.add (((ji27)).toNat * 6)).block, (ad216.add (((ji27)).toNat * 6)).off + 1, none⟩ = some (.int .i64 ((rd_T46 l0_4 (ji27)).f1)) ∧ w'.cell? ⟨(ad216.add (((ji27)).toNat * 6)).block, (ad216.add (((ji27)).toNat * 6)).off + 2, none⟩ = some (.bool ((rd_T46 l0_4 (ji27)).f2)) ∧ w'.cell? ⟨(ad216.add (((ji27)).toNat * 6)).block, (ad216.add (((ji27)).toNat * 6)).off + 3, none⟩ = some (.int .i64 ((rd_T46 l0_4 (ji27)).f3.f0)) ∧ w'.cell? ⟨(ad216.add (((ji27)).toNat * 6)).block, (ad216.add (((ji27)).toNat * 6)).off + 4, none⟩ = some (.int .i64 ((rd_T46 l0_4 (ji27)).f3.f1)) ∧ w'.cell? ⟨(ad216.add (((ji27)).toNat * 6)).block, (ad216.add (((ji27)).toNat * 6)).off + 5, none⟩ = some (.int .i64 ((rd_T46 l0_4 (ji27)).f3.f2))) (ds := []) (bs 20 0) (by kernel_rfl) rfl rfl ⟨bt_ BK213 0, bt_ BK213 1, bt_ BK213 2, bt_ BK213 3, bt_ BK213 4, bt_ BK217 0, bt_ BK217 1, bt_ BK217 2, bt_ BK217 3, bt_ BK217 4, bt_ BK217 5, (hd_ HB hw219_0), (hd_ HB hw219_1), (hd_ HB hw219_2), (hd_ HB hw219_3), (hd_ HB hw219_4), (hd_ HB hw219_5)⟩ (fun hHeld => ?_); refine with_tabW impl_FairOk.tab6 impl_FairOk.bits6 (fun HT_ HW_ => ?_)
              generalize w34.drew = w35 at BK213 BK217 HB hx219_0 hx219_1 hx219_2 hx219_3 hx219_4 hx219_5 hHeld ⊢
              iterate 2 (refine tkn_ HT_ HW_ hHeld ?_)
              refine on_ 2 (some 33) (bs 20 3) HT_ (fun K hK => ?_)
              refine gs_ Try.func53 #[.agg #[.int .i64 a0_0, .int .i64 a0_1, .int .i64 a0_2, .int .i64 a0_3, .slice (some ad216) l0_4.length c0_4], .agg #[.int .i64 ((rd_T46 l0_4 x26_2).f0), .int .i64 ((rd_T46 l0_4 x26_2).f1), .bool ((rd_T46 l0_4 x26_2).f2), .int .i64 ((rd_T46 l0_4 x26_2).f3.f0), .int .i64 ((rd_T46 l0_4 x26_2).f3.f1), .int .i64 ((rd_T46 l0_4 x26_2).f3.f2)]] ?_
              with_reducible refine (impl_Fair_kidOk.calls a0_0 a0_1 a0_2 a0_3 _ _ l0_4 ((rd_T46 l0_4 x26_2).f0) ((rd_T46 l0_4 x26_2).f1) ((rd_T46 l0_4 x26_2).f2) ((rd_T46 l0_4 x26_2).f3.f0) ((rd_T46 l0_4 x26_2).f3.f1) ((rd_T46 l0_4 x26_2).f3.f2) true _ ?side1 ?side2 A24.out).mono ?_
              (case side1 => repeat (first | exact (Kd.C_below HR0_4.out HB.out) | (with_reducible refine Kd.C_alloc ?_ _) | (with_reducible refine Kd.C_drewN ?_ _) | (with_reducible refine Kd.C_drew ?_)))
              (case side2 => exact HC0_4.out)
              rintro e w36 ⟨rfl, hb⟩
              refine ⟨_, rfl, ?_⟩
              replace BK213 := bb_ BK213 hb; replace BK217 := bb_ BK217 hb; replace HB := Aside0.mk (below_step (bf_ HB) hb); (try clear hb); (try clear hb2); (try clear hk); (try clear hi)
              refine hK.out _ _ ⟨bt_ BK213 0, bt_ BK213 1, bt_ BK213 2, bt_ BK213 3, bt_ BK213 4, bt_ BK217 0, bt_ BK217 1, bt_ BK217 2, bt_ BK217 3, bt_ BK217 4, bt_ BK217 5, (hd_ HB hw219_0), (hd_ HB hw219_1), (hd_ HB hw219_2), (hd_ HB hw219_3), (hd_ HB hw219_4), (hd_ HB hw219_5)⟩ (fun hHeld => ?_)
              clear hK K
              refine norm_ (a' := ?_) ?_ ?_
              rotate_left
              ·show Act.put _ (some 33) _ = _
               simp only [Act.put, ls0_, ls1_, ls2_, i64_w, i32_w]
               rfl
              iterate 6 (refine psn_ HT_ ?_)
              refine ps_ 10 41 (bm 20 1535) HT_ ?_
              refine ps_ 11 42 (bm 20 3583) HT_ ?_
              refine ps_ 15 46 (bm 20 36351) HT_ ?_
              refine tk_ 9 40 (bm 20 36863) HT_ HW_ hHeld ?_
              refine ps_ 12 43 (bm 20 40959) HT_ ?_
              refine ps_ 13 44 (bm 20 49151) HT_ ?_
              refine tk_ 14 45 (bs 20 16) HT_ HW_ hHeld ?_
              refine tkn_ HT_ HW_ hHeld ?_
              iterate 3 (refine psn_ HT_ ?_)
              refine done_ (done_of HT_.out (by kernel_rfl)) ?_
              try go_wp2
              go_ret
              exact ⟨by first | rfl | (simp [errW_none, errW_some] <;> rfl) | (simp only [← hji27]; first | rfl | (simp [errW_none, errW_some] <;> rfl)) | (simp [*, errW_none, errW_some] <;> rfl), bf_ HB⟩
             ·rw [if_neg c30] at H
              have c30b0 : decide (((rd_T46 l0_4 x26_2).f0) ≤ ((rd_T46 l0_4 (ji27)).f0)) = false := decide_eq_false c30
              clear c30
              have H' := Aside0.mk H
              clear H
              have p216 : 0 ≤ (x26_2 : Int) := od_
              have q216 : x26_2 < (l0_4.length : Int) := od_
              obtain ⟨ad216, e216, hx216_0, hx216_1, hx216_2, hx216_3, hx216_4, hx216_5⟩ := at_T46 HR0_4.out x26_2 p216 q216
              cases e216
              replace hx216_0 := hb_ HB hx216_0
              replace hx216_1 := hb_ HB hx216_1
              replace hx216_2 := hb_ HB hx216_2
              replace hx216_3 := hb_ HB hx216_3
              replace hx216_4 := hb_ HB hx216_4
              replace hx216_5 := hb_ HB hx216_5
              replace p216 := eq_true p216
              replace q216 := eq_true q216
              try go_wp2_with (first | ((with_reducible refine gd_ 4 rfl ?_); (try (refine gate_guard (by rfl) ?_; dsimp only)); refine bv_ 4 #[.int .i64 0, .int .i64 0, .bool false, .int .i64 0, .int .i64 0, .int .i64 0] 46 ?_; intro gb217 hg w37 hbox hb; have BK217 := Aside0.mk (hbox); have GW217 := gw_ HB hg; have GE217 := gw_ HB hg; replace HB := Aside0.mk (below_step (bf_ HB) hb); have NB213_217 := nl_ BK213 hg; have NB217_213 := ng_ BK213 hg; replace BK213 := bb_ BK213 hb; clear hb hbox hg; have hnb38 := NB217_213.out; have hnc38 := NB213_217.out; obtain ⟨hcz39_0, hcz39_1, hcz39_2, hcz39_3, hcz39_4, hcz39_5, hfz39_0, hfz39_1, hfz39_2, hfz39_3, hfz39_4, hfz39_5⟩ := bz6_ BK217))
              generalize hW_ : ((((((w37.setCell ⟨gb217, 0, none⟩ (.int .i64 ((rd_T46 l0_4 x26_2).f0))).setCell ⟨gb217, 1, none⟩ (.int .i64 ((rd_T46 l0_4 x26_2).f1))).setCell ⟨gb217, 2, none⟩ (.bool ((rd_T46 l0_4 x26_2).f2))).setCell ⟨gb217, 3, none⟩ (.int .i64 ((rd_T46 l0_4 x26_2).f3.f0))).setCell ⟨gb217, 4, none⟩ (.int .i64 ((rd_T46 l0_4 x26_2).f3.f1))).setCell ⟨gb217, 5, none⟩ (.int .i64 ((rd_T46 l0_4 x26_2).f3.f2))) = w40
              replace BK213 := fc6_ hW_ BK213 NB213_217
              replace BK217 : Aside0 (w40.heap[gb217]? = some (.cells #[.int .i64 ((rd_T46 l0_4 x26_2).f0), .int .i64 ((rd_T46 l0_4 x26_2).f1), .bool ((rd_T46 l0_4 x26_2).f2), .int .i64 ((rd_T46 l0_4 x26_2).f3.f0), .int .i64 ((rd_T46 l0_4 x26_2).f3.f1), .int .i64 ((rd_T46 l0_4 x26_2).f3.f2)] 46 (0, 0))) := pc6_ hW_ BK217
              replace HB : Aside0 (Below w.heap.size w w40) := ⟨by cases hW_; exact bf_ HB⟩
              clear hW_; replace BK213 := Aside0.mk (blk_drew BK213.out); replace BK217 := Aside0.mk (blk_drew BK217.out); replace HB := Aside0.mk (below_drew1 HB.out)
              have p219 : 0 ≤ ((ji27) : Int) := od_
              have q219 : (ji27) < (l0_4.length : Int) := od_
              obtain ⟨ad219, e219, hx219_0, hx219_1, hx219_2, hx219_3, hx219_4, hx219_5⟩ := at_T46 HR0_4.out (ji27) p219 q219
              have hw219_5 := hx219_5; have hw219_4 := hx219_4; have hw219_3 := hx219_3; have hw219_2 := hx219_2; have hw219_1 := hx219_1; have hw219_0 := hx219_0
              obtain rfl : ad216 = ad219 := (by injection e219)
              replace hx219_0 := hb_ HB hx219_0
              replace hx219_1 := hb_ HB hx219_1
              replace hx219_2 := hb_ HB hx219_2
              replace hx219_3 := hb_ HB hx219_3
              replace hx219_4 := hb_ HB hx219_4
              replace hx219_5 := hb_ HB hx219_5
              replace p219 := eq_true p219
              replace q219 := eq_true q219
              refine start_ (n := 20) (S := fun w' => cw_ w' gb213 0 (.int .i64 a0_0) ∧ cw_ w' gb213 1 (.int .i64 a0_1) ∧ cw_ w' gb213 2 (.int .i64 a0_2) ∧ cw_ w' gb213 3 (.int .i64 a0_3) ∧ cw_ w' gb213 4 (.slice (some ad216) l0_4.length c0_4) ∧ cw_ w' gb217 0 (.int .i64 ((rd_T46 l0_4 x26_2).f0)) ∧ cw_ w' gb217 1 (.int .i64 ((rd_T46 l0_4 x26_2).f1)) ∧ cw_ w' gb217 2 (.bool ((rd_T46 l0_4 x26_2).f2)) ∧ cw_ w' gb217 3 (.int .i64 ((rd_T46 l0_4 x26_2).f3.f0)) ∧ cw_ w' gb217 4 (.int .i64 ((rd_T46 l0_4 x26_2).f3.f1)) ∧ cw_ w' gb217 5 (.int .i64 ((rd_T46 l0_4 x26_2).f3.f2)) ∧ w'.cell? (ad216.add (((ji27)).toNat * 6)) = some (.int .i64 ((rd_T46 l0_4 (ji27)).f0)) ∧ w'.cell? ⟨(ad216.add (((ji27)).toNat * 6)).block, (ad216.add (((ji27)).toNat * 6)).off + 1, none⟩ = some (.int .i64 ((rd_T46 l0_4 (ji27)).f1)) ∧ w'.cell? ⟨(ad216.add (((ji27)).toNat * 6)).block, (ad216.add (((ji27)).toNat * 6)).off + 2, none⟩ = some (.bool ((rd_T46 l0_4 (ji27)).f2)) ∧ w'.cell? ⟨(ad216.add (((ji27)).toNat * 6)).block, (ad216.add (((ji27)).toNat * 6)).off + 3, none⟩ = some (.int .i64 ((rd_T46 l0_4 (ji27)).f3.f0)) ∧ w'.cell? ⟨(ad216.add (((ji27)).toNat * 6)).block, (ad216.add (((ji27)).toNat * 6)).off + 4, none⟩ = some (.int .i64 ((rd_T46 l0_4 (ji27)).f3.f1)) ∧ w'.cell? ⟨(ad216.add (((ji27)).toNat * 6)).block, (ad216.add (((ji27)).toNat * 6)).off + 5, none⟩ = some (.int .i64 ((rd_T46 l0_4 (ji27)).f3.f2))) (ds := []) (bs 20 0) (by kernel_rfl) rfl rfl ⟨bt_ BK213 0, bt_ BK213 1, bt_ BK213 2, bt_ BK213 3, bt_ BK213 4, bt_ BK217 0, bt_ BK217 1, bt_ BK217 2, bt_ BK217 3, bt_ BK217 4, bt_ BK217 5, (hd_ HB hw219_0), (hd_ HB hw219_1), (hd_ HB hw219_2), (hd_ HB hw219_3), (hd_ HB hw219_4), (hd_ HB hw219_5)⟩ (fun hHeld => ?_); refine with_tabW impl_FairOk.tab6 impl_FairOk.bits6 (fun HT_ HW_ => ?_)
              generalize w40.drew = w41 at BK213 BK217 HB hx219_0 hx219_1 hx219_2 hx219_3 hx219_4 hx219_5 hHeld ⊢
              iterate 2 (refine tkn_ HT_ HW_ hHeld ?_)
              refine on_ 2 (some 33) (bs 20 3) HT_ (fun K hK => ?_)
              refine gs_ Try.func53 #[.agg #[.int .i64 a0_0, .int .i64 a0_1, .int .i64 a0_2, .int .i64 a0_3, .slice (some ad216) l0_4.length c0_4], .agg #[.int .i64 ((rd_T46 l0_4 x26_2).f0), .int .i64 ((rd_T46 l0_4 x26_2).f1), .bool ((rd_T46 l0_4 x26_2).f2), .int .i64 ((rd_T46 l0_4 x26_2).f3.f0), .int .i64 ((rd_T46 l0_4 x26_2).f3.f1), .int .i64 ((rd_T46 l0_4 x26_2).f3.f2)]] ?_
              with_reducible refine (impl_Fair_kidOk.calls a0_0 a0_1 a0_2 a0_3 _ _ l0_4 ((rd_T46 l0_4 x26_2).f0) ((rd_T46 l0_4 x26_2).f1) ((rd_T46 l0_4 x26_2).f2) ((rd_T46 l0_4 x26_2).f3.f0) ((rd_T46 l0_4 x26_2).f3.f1) ((rd_T46 l0_4 x26_2).f3.f2) true _ ?side1 ?side2 A24.out).mono ?_
              (case side1 => repeat (first | exact (Kd.C_below HR0_4.out HB.out) | (with_reducible refine Kd.C_alloc ?_ _) | (with_reducible refine Kd.C_drewN ?_ _) | (with_reducible refine Kd.C_drew ?_)))
              (case side2 => exact HC0_4.out)
              rintro e w42 ⟨rfl, hb⟩
              refine ⟨_, rfl, ?_⟩
              replace BK213 := bb_ BK213 hb; replace BK217 := bb_ BK217 hb; replace HB := Aside0.mk (below_step (bf_ HB) hb); (try clear hb); (try clear hb2); (try clear hk); (try clear hi)
              refine hK.out _ _ ⟨bt_ BK213 0, bt_ BK213 1, bt_ BK213 2, bt_ BK213 3, bt_ BK213 4, bt_ BK217 0, bt_ BK217 1, bt_ BK217 2, bt_ BK217 3, bt_ BK217 4, bt_ BK217 5, (hd_ HB hw219_0), (hd_ HB hw219_1), (hd_ HB hw219_2), (hd_ HB hw219_3), (hd_ HB hw219_4), (hd_ HB hw219_5)⟩ (fun hHeld => ?_)
              clear hK K
              refine norm_ (a' := ?_) ?_ ?_
              rotate_left
              ·show Act.put _ (some 33) _ = _
               simp only [Act.put, ls0_, ls1_, ls2_, i64_w, i32_w]
               rfl
              iterate 6 (refine psn_ HT_ ?_)
              refine ps_ 10 41 (bm 20 1535) HT_ ?_
              refine ps_ 11 42 (bm 20 3583) HT_ ?_
              refine ps_ 15 46 (bm 20 36351) HT_ ?_
              refine tk_ 9 40 (bm 20 36863) HT_ HW_ hHeld ?_
              refine ps_ 12 43 (bm 20 40959) HT_ ?_
              refine ps_ 13 44 (bm 20 49151) HT_ ?_
              refine tk_ 14 45 (bs 20 16) HT_ HW_ hHeld ?_
              refine tkn_ HT_ HW_ hHeld ?_
              iterate 3 (refine psn_ HT_ ?_)
              refine done_ (done_of HT_.out (by kernel_rfl)) ?_
              try go_wp2
              go_roundg k2
              case measure => have := HJ1.out; have := HK2.out; omega
              case rel => exact ⟨(wrap64 (x26_2 + 1)), (by first | rfl | (simp; done) | (simp [*]; done)), H', ⟨by have := HJ1.out; have := HK2.out; omega⟩, ⟨bk_ BK213⟩, ⟨bf_ HB⟩⟩
            ·rw [if_neg c29] at H
             exact absurd H (by simp)
           ·rw [if_neg c28] at H
            exact absurd H (by simp)
          ·rw [if_neg c26] at H
           have c26b0 : decide (0 < x26_2) = false := decide_eq_false c26
           clear c26
           have H' := Aside0.mk H
           clear H
           have p216 : 0 ≤ (x26_2 : Int) := od_
           have q216 : x26_2 < (l0_4.length : Int) := od_
           obtain ⟨ad216, e216, hx216_0, hx216_1, hx216_2, hx216_3, hx216_4, hx216_5⟩ := at_T46 HR0_4.out x26_2 p216 q216
           cases e216
           replace hx216_0 := hb_ HB hx216_0
           replace hx216_1 := hb_ HB hx216_1
           replace hx216_2 := hb_ HB hx216_2
           replace hx216_3 := hb_ HB hx216_3
           replace hx216_4 := hb_ HB hx216_4
           replace hx216_5 := hb_ HB hx216_5
           replace p216 := eq_true p216
           replace q216 := eq_true q216
           try go_wp2_with (first | ((with_reducible refine gd_ 4 rfl ?_); (try (refine gate_guard (by rfl) ?_; dsimp only)); refine bv_ 4 #[.int .i64 0, .int .i64 0, .bool false, .int .i64 0, .int .i64 0, .int .i64 0] 46 ?_; intro gb217 hg w43 hbox hb; have BK217 := Aside0.mk (hbox); have GW217 := gw_ HB hg; have GE217 := gw_ HB hg; replace HB := Aside0.mk (below_step (bf_ HB) hb); have NB213_217 := nl_ BK213 hg; have NB217_213 := ng_ BK213 hg; replace BK213 := bb_ BK213 hb; clear hb hbox hg; have hnb44 := NB217_213.out; have hnc44 := NB213_217.out; obtain ⟨hcz45_0, hcz45_1, hcz45_2, hcz45_3, hcz45_4, hcz45_5, hfz45_0, hfz45_1, hfz45_2, hfz45_3, hfz45_4, hfz45_5⟩ := bz6_ BK217))
           generalize hW_ : ((((((w43.setCell ⟨gb217, 0, none⟩ (.int .i64 ((rd_T46 l0_4 x26_2).f0))).setCell ⟨gb217, 1, none⟩ (.int .i64 ((rd_T46 l0_4 x26_2).f1))).setCell ⟨gb217, 2, none⟩ (.bool ((rd_T46 l0_4 x26_2).f2))).setCell ⟨gb217, 3, none⟩ (.int .i64 ((rd_T46 l0_4 x26_2).f3.f0))).setCell ⟨gb217, 4, none⟩ (.int .i64 ((rd_T46 l0_4 x26_2).f3.f1))).setCell ⟨gb217, 5, none⟩ (.int .i64 ((rd_T46 l0_4 x26_2).f3.f2))) = w46
           replace BK213 := fc6_ hW_ BK213 NB213_217
           replace BK217 : Aside0 (w46.heap[gb217]? = some (.cells #[.int .i64 ((rd_T46 l0_4 x26_2).f0), .int .i64 ((rd_T46 l0_4 x26_2).f1), .bool ((rd_T46 l0_4 x26_2).f2), .int .i64 ((rd_T46 l0_4 x26_2).f3.f0), .int .i64 ((rd_T46 l0_4 x26_2).f3.f1), .int .i64 ((rd_T46 l0_4 x26_2).f3.f2)] 46 (0, 0))) := pc6_ hW_ BK217
           replace HB : Aside0 (Below w.heap.size w w46) := ⟨by cases hW_; exact bf_ HB⟩
           clear hW_; replace BK213 := Aside0.mk (blk_drew BK213.out); replace BK217 := Aside0.mk (blk_drew BK217.out); replace HB := Aside0.mk (below_drew1 HB.out)
           refine start_ (n := 20) (S := fun w' => cw_ w' gb213 0 (.int .i64 a0_0) ∧ cw_ w' gb213 1 (.int .i64 a0_1) ∧ cw_ w' gb213 2 (.int .i64 a0_2) ∧ cw_ w' gb213 3 (.int .i64 a0_3) ∧ cw_ w' gb213 4 (.slice (some ad216) l0_4.length c0_4) ∧ cw_ w' gb217 0 (.int .i64 ((rd_T46 l0_4 x26_2).f0)) ∧ cw_ w' gb217 1 (.int .i64 ((rd_T46 l0_4 x26_2).f1)) ∧ cw_ w' gb217 2 (.bool ((rd_T46 l0_4 x26_2).f2)) ∧ cw_ w' gb217 3 (.int .i64 ((rd_T46 l0_4 x26_2).f3.f0)) ∧ cw_ w' gb217 4 (.int .i64 ((rd_T46 l0_4 x26_2).f3.f1)) ∧ cw_ w' gb217 5 (.int .i64 ((rd_T46 l0_4 x26_2).f3.f2))) (ds := []) (bs 20 0) (by kernel_rfl) rfl rfl ⟨bt_ BK213 0, bt_ BK213 1, bt_ BK213 2, bt_ BK213 3, bt_ BK213 4, bt_ BK217 0, bt_ BK217 1, bt_ BK217 2, bt_ BK217 3, bt_ BK217 4, bt_ BK217 5⟩ (fun hHeld => ?_); refine with_tabW impl_FairOk.tab6 impl_FairOk.bits6 (fun HT_ HW_ => ?_)
           generalize w46.drew = w47 at BK213 BK217 HB hHeld ⊢
           iterate 2 (refine tkn_ HT_ HW_ hHeld ?_)
           refine on_ 2 (some 33) (bs 20 3) HT_ (fun K hK => ?_)
           refine gs_ Try.func53 #[.agg #[.int .i64 a0_0, .int .i64 a0_1, .int .i64 a0_2, .int .i64 a0_3, .slice (some ad216) l0_4.length c0_4], .agg #[.int .i64 ((rd_T46 l0_4 x26_2).f0), .int .i64 ((rd_T46 l0_4 x26_2).f1), .bool ((rd_T46 l0_4 x26_2).f2), .int .i64 ((rd_T46 l0_4 x26_2).f3.f0), .int .i64 ((rd_T46 l0_4 x26_2).f3.f1), .int .i64 ((rd_T46 l0_4 x26_2).f3.f2)]] ?_
           with_reducible refine (impl_Fair_kidOk.calls a0_0 a0_1 a0_2 a0_3 _ _ l0_4 ((rd_T46 l0_4 x26_2).f0) ((rd_T46 l0_4 x26_2).f1) ((rd_T46 l0_4 x26_2).f2) ((rd_T46 l0_4 x26_2).f3.f0) ((rd_T46 l0_4 x26_2).f3.f1) ((rd_T46 l0_4 x26_2).f3.f2) true _ ?side1 ?side2 A24.out).mono ?_
           (case side1 => repeat (first | exact (Kd.C_below HR0_4.out HB.out) | (with_reducible refine Kd.C_alloc ?_ _) | (with_reducible refine Kd.C_drewN ?_ _) | (with_reducible refine Kd.C_drew ?_)))
           (case side2 => exact HC0_4.out)
           rintro e w48 ⟨rfl, hb⟩
           refine ⟨_, rfl, ?_⟩
           replace BK213 := bb_ BK213 hb; replace BK217 := bb_ BK217 hb; replace HB := Aside0.mk (below_step (bf_ HB) hb); (try clear hb); (try clear hb2); (try clear hk); (try clear hi)
           refine hK.out _ _ ⟨bt_ BK213 0, bt_ BK213 1, bt_ BK213 2, bt_ BK213 3, bt_ BK213 4, bt_ BK217 0, bt_ BK217 1, bt_ BK217 2, bt_ BK217 3, bt_ BK217 4, bt_ BK217 5⟩ (fun hHeld => ?_)
           clear hK K
           refine norm_ (a' := ?_) ?_ ?_
           rotate_left
           ·show Act.put _ (some 33) _ = _
            simp only [Act.put, ls0_, ls1_, ls2_, i64_w, i32_w]
            rfl
           iterate 5 (refine psn_ HT_ ?_)
           iterate 10 (refine pun_ HT_ ?_)
           iterate 2 (refine psn_ HT_ ?_)
           refine done_ (done_of HT_.out (by kernel_rfl)) ?_
           try go_wp2
           go_roundg k2
           case measure => have := HJ1.out; have := HK2.out; omega
           case rel => exact ⟨(wrap64 (x26_2 + 1)), (by first | rfl | (simp; done) | (simp [*]; done)), H', ⟨by have := HJ1.out; have := HK2.out; omega⟩, ⟨bk_ BK213⟩, ⟨bf_ HB⟩⟩
         ·replace c25 := Bool.eq_false_iff.mpr c25
          subst c25
          rw [if_neg (show ¬ (false = true) by decide)] at H
          obtain rfl := Option.some.inj H
          have p216 : 0 ≤ (x26_2 : Int) := od_
          have q216 : x26_2 < (l0_4.length : Int) := od_
          obtain ⟨ad216, e216, hx216_0, hx216_1, hx216_2, hx216_3, hx216_4, hx216_5⟩ := at_T46 HR0_4.out x26_2 p216 q216
          cases e216
          replace hx216_0 := hb_ HB hx216_0
          replace hx216_1 := hb_ HB hx216_1
          replace hx216_2 := hb_ HB hx216_2
          replace hx216_3 := hb_ HB hx216_3
          replace hx216_4 := hb_ HB hx216_4
          replace hx216_5 := hb_ HB hx216_5
          replace p216 := eq_true p216
          replace q216 := eq_true q216
          try go_wp2_with (first | ((with_reducible refine gd_ 4 rfl ?_); (try (refine gate_guard (by rfl) ?_; dsimp only)); refine bv_ 4 #[.int .i64 0, .int .i64 0, .bool false, .int .i64 0, .int .i64 0, .int .i64 0] 46 ?_; intro gb217 hg w49 hbox hb; have BK217 := Aside0.mk (hbox); have GW217 := gw_ HB hg; have GE217 := gw_ HB hg; replace HB := Aside0.mk (below_step (bf_ HB) hb); have NB213_217 := nl_ BK213 hg; have NB217_213 := ng_ BK213 hg; replace BK213 := bb_ BK213 hb; clear hb hbox hg; have hnb50 := NB217_213.out; have hnc50 := NB213_217.out; obtain ⟨hcz51_0, hcz51_1, hcz51_2, hcz51_3, hcz51_4, hcz51_5, hfz51_0, hfz51_1, hfz51_2, hfz51_3, hfz51_4, hfz51_5⟩ := bz6_ BK217))
          generalize hW_ : ((((((w49.setCell ⟨gb217, 0, none⟩ (.int .i64 ((rd_T46 l0_4 x26_2).f0))).setCell ⟨gb217, 1, none⟩ (.int .i64 ((rd_T46 l0_4 x26_2).f1))).setCell ⟨gb217, 2, none⟩ (.bool ((rd_T46 l0_4 x26_2).f2))).setCell ⟨gb217, 3, none⟩ (.int .i64 ((rd_T46 l0_4 x26_2).f3.f0))).setCell ⟨gb217, 4, none⟩ (.int .i64 ((rd_T46 l0_4 x26_2).f3.f1))).setCell ⟨gb217, 5, none⟩ (.int .i64 ((rd_T46 l0_4 x26_2).f3.f2))) = w52
          replace BK213 := fc6_ hW_ BK213 NB213_217
          replace BK217 : Aside0 (w52.heap[gb217]? = some (.cells #[.int .i64 ((rd_T46 l0_4 x26_2).f0), .int .i64 ((rd_T46 l0_4 x26_2).f1), .bool ((rd_T46 l0_4 x26_2).f2), .int .i64 ((rd_T46 l0_4 x26_2).f3.f0), .int .i64 ((rd_T46 l0_4 x26_2).f3.f1), .int .i64 ((rd_T46 l0_4 x26_2).f3.f2)] 46 (0, 0))) := pc6_ hW_ BK217
          replace HB : Aside0 (Below w.heap.size w w52) := ⟨by cases hW_; exact bf_ HB⟩
          clear hW_; replace BK213 := Aside0.mk (blk_drew BK213.out); replace BK217 := Aside0.mk (blk_drew BK217.out); replace HB := Aside0.mk (below_drew1 HB.out)
          refine start_ (n := 20) (S := fun w' => cw_ w' gb213 0 (.int .i64 a0_0) ∧ cw_ w' gb213 1 (.int .i64 a0_1) ∧ cw_ w' gb213 2 (.int .i64 a0_2) ∧ cw_ w' gb213 3 (.int .i64 a0_3) ∧ cw_ w' gb213 4 (.slice (some ad216) l0_4.length c0_4) ∧ cw_ w' gb217 0 (.int .i64 ((rd_T46 l0_4 x26_2).f0)) ∧ cw_ w' gb217 1 (.int .i64 ((rd_T46 l0_4 x26_2).f1)) ∧ cw_ w' gb217 2 (.bool ((rd_T46 l0_4 x26_2).f2)) ∧ cw_ w' gb217 3 (.int .i64 ((rd_T46 l0_4 x26_2).f3.f0)) ∧ cw_ w' gb217 4 (.int .i64 ((rd_T46 l0_4 x26_2).f3.f1)) ∧ cw_ w' gb217 5 (.int .i64 ((rd_T46 l0_4 x26_2).f3.f2))) (ds := []) (bs 20 0) (by kernel_rfl) rfl rfl ⟨bt_ BK213 0, bt_ BK213 1, bt_ BK213 2, bt_ BK213 3, bt_ BK213 4, bt_ BK217 0, bt_ BK217 1, bt_ BK217 2, bt_ BK217 3, bt_ BK217 4, bt_ BK217 5⟩ (fun hHeld => ?_); refine with_tabW impl_FairOk.tab6 impl_FairOk.bits6 (fun HT_ HW_ => ?_)
          generalize w52.drew = w53 at BK213 BK217 HB hHeld ⊢
          iterate 2 (refine tkn_ HT_ HW_ hHeld ?_)
          refine on_ 2 (some 33) (bs 20 3) HT_ (fun K hK => ?_)
          refine gs_ Try.func53 #[.agg #[.int .i64 a0_0, .int .i64 a0_1, .int .i64 a0_2, .int .i64 a0_3, .slice (some ad216) l0_4.length c0_4], .agg #[.int .i64 ((rd_T46 l0_4 x26_2).f0), .int .i64 ((rd_T46 l0_4 x26_2).f1), .bool ((rd_T46 l0_4 x26_2).f2), .int .i64 ((rd_T46 l0_4 x26_2).f3.f0), .int .i64 ((rd_T46 l0_4 x26_2).f3.f1), .int .i64 ((rd_T46 l0_4 x26_2).f3.f2)]] ?_
          with_reducible refine (impl_Fair_kidOk.calls a0_0 a0_1 a0_2 a0_3 _ _ l0_4 ((rd_T46 l0_4 x26_2).f0) ((rd_T46 l0_4 x26_2).f1) ((rd_T46 l0_4 x26_2).f2) ((rd_T46 l0_4 x26_2).f3.f0) ((rd_T46 l0_4 x26_2).f3.f1) ((rd_T46 l0_4 x26_2).f3.f2) false _ ?side1 ?side2 A24.out).mono ?_
          (case side1 => repeat (first | exact (Kd.C_below HR0_4.out HB.out) | (with_reducible refine Kd.C_alloc ?_ _) | (with_reducible refine Kd.C_drewN ?_ _) | (with_reducible refine Kd.C_drew ?_)))
          (case side2 => exact HC0_4.out)
          rintro e w54 ⟨rfl, hb⟩
          refine ⟨_, rfl, ?_⟩
          replace BK213 := bb_ BK213 hb; replace BK217 := bb_ BK217 hb; replace HB := Aside0.mk (below_step (bf_ HB) hb); (try clear hb); (try clear hb2); (try clear hk); (try clear hi)
          refine hK.out _ _ ⟨bt_ BK213 0, bt_ BK213 1, bt_ BK213 2, bt_ BK213 3, bt_ BK213 4, bt_ BK217 0, bt_ BK217 1, bt_ BK217 2, bt_ BK217 3, bt_ BK217 4, bt_ BK217 5⟩ (fun hHeld => ?_)
          clear hK K
          refine norm_ (a' := ?_) ?_ ?_
          rotate_left
          ·show Act.put _ (some 33) _ = _
           simp only [Act.put, ls0_, ls1_, ls2_, i64_w, i32_w]
           rfl
          iterate 2 (refine psn_ HT_ ?_)
          iterate 14 (refine pun_ HT_ ?_)
          refine psn_ HT_ ?_
          refine done_ (done_of HT_.out (by kernel_rfl)) ?_
          try go_wp2
          go_ret
          exact ⟨by first | rfl | (simp [errW_none, errW_some] <;> rfl) | (simp [*, errW_none, errW_some] <;> rfl), bf_ HB⟩
        ·rw [if_neg c23] at H
         exact absurd H (by simp)
       ·rw [if_neg c22] at H
        exact absurd H (by simp)
      ·rw [if_neg c21] at H
       have c21b0 : decide (x26_2 < (l0_4.length : Int)) = false := decide_eq_false c21
       clear c21
       obtain rfl := Option.some.inj H
       go_wp2
       go_ret
       exact ⟨by first | rfl | (simp [errW_none, errW_some] <;> rfl) | (simp [*, errW_none, errW_some] <;> rfl), bf_ HB⟩

-- NOT PRINTED: function 67 (impl_Kid_67)

/-! ### impl_Fair_at_1: function 68 -/
def impl_Fair_at_1.f (a0_0 : Int) (a0_1 : Int) (a0_2 : Bool) (a0_3 : Int) (a0_4 : Int) (a0_5 : Int) (a1 : Int) : Option (Bool) := some (a0_0 == a1)
set_option maxHeartbeats 8000000 in
set_option maxRecDepth 100000 in
theorem impl_Fair_at_1.calls (a0_0 : Int) (a0_1 : Int) (a0_2 : Bool) (a0_3 : Int) (a0_4 : Int) (a0_5 : Int) (a1 : Int) (r : Bool) (w : World) (gb220 : Nat) (hb_gb220 : w.heap[gb220]? = some (.cells #[.int .i64 a1] 3 (0, 0))) (h : impl_Fair_at_1.f a0_0 a0_1 a0_2 a0_3 a0_4 a0_5 a1 = some r) :
  Calls Try.prog 68 #[.agg #[.int .i64 a0_0, .int .i64 a0_1, .bool a0_2, .int .i64 a0_3, .int .i64 a0_4, .int .i64 a0_5], .pointer (some ⟨gb220, 0, none⟩)] w fun e w' => e = .returned (.bool r) ∧ Below w.heap.size w w' := by
 have hu46 := Try.underlying46; have HB := Aside0.mk (Below.refl w.heap.size w)
 have H := h
 clear h
 unfold impl_Fair_at_1.f at H
 obtain rfl := Option.some.inj H
 have BK220 := Aside0.mk hb_gb220
 go_enter Try.func68, Try.ntmps68
 go_wp2_with (first | ((with_reducible refine gd_ 2 rfl ?_); refine bv_ 2 #[.int .i64 a0_0, .int .i64 a0_1, .bool a0_2, .int .i64 a0_3, .int .i64 a0_4, .int .i64 a0_5] 46 ?_; intro gb221 hg w4 hbox hb; have BK221 := Aside0.mk (hbox); have GW221 := gw_ HB hg; have GE221 := gw_ HB hg; replace HB := Aside0.mk (below_step (bf_ HB) hb); have NB220_221 := nl_ BK220 hg; have NB221_220 := ng_ BK220 hg; replace BK220 := bb_ BK220 hb; clear hb hbox hg; have hnb5 := NB221_220.out; have hnc5 := NB220_221.out; obtain ⟨hcz6_0, hcz6_1, hcz6_2, hcz6_3, hcz6_4, hcz6_5, hfz6_0, hfz6_1, hfz6_2, hfz6_3, hfz6_4, hfz6_5⟩ := bz6_ BK221; obtain ⟨hcz7_0, hfz7_0⟩ := bz1_ BK220))
 go_ret
 exact ⟨by first | rfl | (simp [errW_none, errW_some] <;> rfl) | (simp [*, errW_none, errW_some] <;> rfl), bf_ HB⟩

/-! ### impl_Fair_at: function 36 (wip/hand) -/
theorem impl_Fair_at.pred (id : Int) (B : Nat) (w W : World) (hB : B < w.heap.size) (hc : w.cell? ⟨B, 0, none⟩ = some (.int .i64 id)) (hb : Below w.heap.size w W) (x : S46) :
    Calls Try.prog 68 #[.agg #[.int .i64 x.f0, .int .i64 x.f1, .bool x.f2, .int .i64 x.f3.f0, .int .i64 x.f3.f1, .int .i64 x.f3.f2], .pointer (some ⟨B, 0, none⟩)] W fun e w' => e = .returned (.bool (x.f0 == id)) ∧ Below w.heap.size w w' := by
  have hc' : W.cell? ⟨B, 0, none⟩ = some (.int .i64 id) := (hb.cell (p := ⟨B, 0, none⟩) hB).trans hc
  have hBW : B < W.heap.size := Nat.lt_of_lt_of_le hB hb.size
  have hne : B ≠ W.heap.size := by omega
  go_enter Try.func68, Try.ntmps68
  go_wp2
  all_goals (go_ret; exact ⟨by simp_all, hb.alloc hb.size _⟩)
theorem impl_Fair_at.idx_at {l0 : List S46} {i : Int} (h0 : 0 ≤ i) (h1 : i < (l0.length : Int)) : l0[i.toNat]? = some (rd_T46 l0 i) := by
  unfold rd_T46
  rw [List.getD_eq_getElem?_getD, List.getElem?_eq_getElem (by omega)]; rfl
set_option maxHeartbeats 2000000 in
theorem impl_Fair_at.idx_calls (p : S46 → Bool) (lb : Array Value) (A0 : Option Addr) (c0 : Nat) (l0 : List S46) (w : World) (hr0 : Kd.C k46 w A0 l0.length l0) (hc0 : l0.length ≤ c0) (hbig : l0.length ≤ 9223372036854775806)
    (hp : ∀ (W : World) (x : S46), Below w.heap.size w W → Calls Try.prog 68 (#[.agg #[.int .i64 x.f0, .int .i64 x.f1, .bool x.f2, .int .i64 x.f3.f0, .int .i64 x.f3.f1, .int .i64 x.f3.f2]] ++ lb) W fun e w' => e = .returned (.bool (p x)) ∧ Below w.heap.size w w') :
    Calls Try.prog 67 #[.slice A0 l0.length c0, .func (.func 68) #[] lb] w fun e w' => e = .returned (.int .i64 (idxP p l0)) ∧ Below w.heap.size w w' := by
  have hu46 := Try.underlying46
  have HR0 := Aside0.mk hr0
  have HC0 := Aside0.mk hc0
  have HN := Aside0.mk hbig
  have HP := Aside0.mk hp
  clear hr0 hc0 hbig hp
  go_enter Try.func67, Try.ntmps67
  go_wp2
  go_loopg [5, 8] l0.length (fun gg _ s8 wr => ∃ i : Int, s8 = .int .i64 i ∧ Aside0 (0 ≤ i ∧ i ≤ (l0.length : Int) ∧ l0.length - i.toNat ≤ gg) ∧ Aside0 (Below w.heap.size w wr) ∧ Aside0 (∀ (j : Nat) y, (j : Int) < i → l0[j]? = some y → p y = false))
  case atStart => exact ⟨0, rfl, ⟨by omega, by omega, by omega⟩, ⟨Below.refl _ w⟩, ⟨fun j y hj => by omega⟩⟩
  case round =>
    obtain ⟨i, rfl, HI, HB, A⟩ := hrel
    by_cases c6 : i < (l0.length : Int)
    · have c6b0 : decide (i < (l0.length : Int)) = true := decide_eq_true c6
      have p115 : 0 ≤ i := HI.out.1
      obtain ⟨ad115, e115, hx115_0, hx115_1, hx115_2, hx115_3, hx115_4, hx115_5⟩ := at_T46 HR0.out i p115 c6
      have HX := Aside0.mk (impl_Fair_at.idx_at p115 c6)
      have q115 := c6
      clear c6
      cases e115
      replace hx115_0 := hb_ HB hx115_0
      replace hx115_1 := hb_ HB hx115_1
      replace hx115_2 := hb_ HB hx115_2
      replace hx115_3 := hb_ HB hx115_3
      replace hx115_4 := hb_ HB hx115_4
      replace hx115_5 := hb_ HB hx115_5
      have HQ := Aside0.mk q115
      replace p115 := eq_true p115
      replace q115 := eq_true q115
      have hcall := HP.out wr (rd_T46 l0 i) HB.out
      generalize rd_T46 l0 i = x at *
      cases hq : p x with
      | true =>
        rw [hq] at hcall
        have HQ1 := Aside0.mk hq
        clear hq
        go_wp2_with (go_at_call 68; refine hcall.mono ?_; rintro e w' ⟨rfl, hb'⟩)
        go_ret
        refine ⟨?_, hb'⟩
        rw [idxP_hit l0 i.toNat x HX.out HQ1.out (fun j y hj => A.out j y (by omega)), Int.toNat_of_nonneg HI.out.1]
        rfl
      | false =>
        rw [hq] at hcall
        have HQ1 := Aside0.mk hq
        clear hq
        go_wp2_with (go_at_call 68; refine hcall.mono ?_; rintro e w' ⟨rfl, hb'⟩)
        go_roundg (l0.length - (i.toNat + 1))
        case measure => have := HI.out; have := HQ.out; omega
        case rel =>
          have h1 := HI.out
          have h2 := HQ.out
          have h3 := HN.out
          refine ⟨i + 1, by rw [show wrap64 (i + 1) = i + 1 by unfold wrap64; omega], ⟨by omega, by omega, by omega⟩, ⟨hb'⟩, ⟨fun j y hj hy => ?_⟩⟩
          by_cases e : j = i.toNat
          · subst e
            rw [HX.out] at hy
            cases hy
            exact HQ1.out
          · exact A.out j y (by omega) hy
    · have c6b0 : decide (i < (l0.length : Int)) = false := decide_eq_false c6
      have HQ := Aside0.mk c6
      clear c6
      go_wp2
      go_ret
      refine ⟨?_, HB.out⟩
      rw [idxP_miss l0 (fun j y hy => by
        have := HQ.out
        by_cases hj : j < l0.length
        · exact A.out j y (by omega) hy
        · rw [List.getElem?_eq_none (by omega)] at hy; cases hy)]
      rfl
def impl_Fair_at.f (a0_0 : Int) (a0_1 : Int) (a0_2 : Int) (a0_3 : Int) (l0_4 : List (S46)) (a1 : Int) : Option (Int) := if l0_4.length ≤ 9223372036854775806 then some (idxP (fun x => x.f0 == a1) l0_4) else none
set_option maxHeartbeats 8000000 in
set_option maxRecDepth 100000 in
theorem impl_Fair_at.calls (a0_0 : Int) (a0_1 : Int) (a0_2 : Int) (a0_3 : Int) (A0_4 : Option Addr) (c0_4 : Nat) (l0_4 : List (S46)) (a1 : Int) (r : Int) (w : World) (hr0_4 : Kd.C k46 w A0_4 l0_4.length l0_4) (hc0_4 : l0_4.length ≤ c0_4) (h : impl_Fair_at.f a0_0 a0_1 a0_2 a0_3 l0_4 a1 = some r) :
  Calls Try.prog 36 #[.agg #[.int .i64 a0_0, .int .i64 a0_1, .int .i64 a0_2, .int .i64 a0_3, .slice A0_4 l0_4.length c0_4], .int .i64 a1] w fun e w' => e = .returned (.int .i64 r) ∧ Below w.heap.size w w' := by
  have hu31 := Try.underlying31
  unfold impl_Fair_at.f at h
  split at h
  case isFalse => cases h
  rename_i hbig
  obtain rfl := Option.some.inj h
  have HC := fun (W : World) (B : Nat) (hw : Below w.heap.size w W) (hB : B < W.heap.size) (hc : W.cell? ⟨B, 0, none⟩ = some (.int .i64 a1)) =>
    (impl_Fair_at.idx_calls (fun x => x.f0 == a1) #[.pointer (some ⟨B, 0, none⟩)] A0_4 c0_4 l0_4 W (Kd.C_below hr0_4 hw) hc0_4 hbig (fun W' x hb => impl_Fair_at.pred a1 B W W' hB hc hb x)).mono (fun e w' (hh : _ ∧ _) => (⟨hh.1, hw.trans (hh.2.mono hw.size)⟩ : _ ∧ Below w.heap.size w w'))
  have HC' := Aside0.mk HC
  clear HC hr0_4 hc0_4 hbig h
  have HB := Aside0.mk (Below.refl w.heap.size w)
  go_enter Try.func36, Try.ntmps36
  go_wp2_with (go_at_call 67; refine (HC'.out _ _ ?hbe ?hlt ?hce).mono ?_; (case hbe => repeat (first | (with_reducible first | exact HB.out | apply below_alloc | apply pw_below_drewN | apply below_drew1) | exact HB.out)); (case hlt => simp); (case hce => simp); rintro e w' ⟨rfl, hb'⟩)
  go_ret
  exact ⟨rfl, hb'⟩

-- NOT PRINTED: function 84 (impl_both)

/-! ### impl_VecMost_1: function 85 -/
def impl_VecMost_1.f (a0 : Int) (a1 : Int) : Option (Int) := some (mx a0 a1)
set_option maxHeartbeats 8000000 in
set_option maxRecDepth 100000 in
theorem impl_VecMost_1.calls (a0 : Int) (a1 : Int) (r : Int) (w : World) (h : impl_VecMost_1.f a0 a1 = some r) :
  Calls Try.prog 85 #[.int .i64 a0, .int .i64 a1] w fun e w' => e = .returned (.int .i64 r) ∧ Below w.heap.size w w' := by
 have HB := Aside0.mk (Below.refl w.heap.size w)
 have H := h
 clear h
 unfold impl_VecMost_1.f at H
 obtain ⟨ji3, hji3⟩ : ∃ j_ : Int, (mx a0 a1) = j_ := ⟨_, rfl⟩
 replace H : (some ji3) = some r := by first | (rw [hji3] at H; exact H) | (simp only [hji3] at H ⊢; exact H)
 have hji3_ : (if a0 < a1 then a1 else a0) = ji3 := hji3
 obtain rfl := Option.some.inj H
 go_enter Try.func85, Try.ntmps85
 go_wp2
 go_ret
 exact ⟨by first | rfl | (simp [errW_none, errW_some] <;> rfl) | (simp only [← hji3]; first | rfl | (simp [errW_none, errW_some] <;> rfl)) | (simp [*, errW_none, errW_some] <;> rfl), be_ HB⟩

end Go.Proofs.Ytppmbdfbhahngaa.PFnExactFairLeave
