-- printed by a program of this session (wip/printx) out of the translation; Lean checks it
import Derived.Test.YtppmbdfbhahngaaVFnExactFairJoin
import Derived.Test.YtppmbdfbhahngaaPFnExactFairJoinx0
import Derived.Test.YtppmbdfbhahngaaPFnExactFairJoinx6
import Derived.Test.YtppmbdfbhahngaaPFnExactFairJoinx7
namespace Go.Proofs.Ytppmbdfbhahngaa.PFnExactFairJoin
open Go.RowKit Go.Proofs.YtppmbdfbhahngaaW.PrintWords Go.Proofs.YtppmbdfbhahngaaW.PrintLast Go.Proofs.YtppmbdfbhahngaaW.PrintMore
attribute [local go_sem] max2_int min2_int max_two min_two max_three min_three max_four min_four   -- for this text's walks alone
set_option linter.unusedVariables false
set_option linter.unusedSimpArgs false

/-! ### impl_FairOk: function 21 -/
mutual
def impl_FairOk.j0 : Nat → Bool → Int → Int → Int → Int → List (S46) → Option (Bool)
  | 0, _, _, _, _, _, _ => none
  | k + 1, x22, x245000, x245001, x245002, x245003, x245004 => if x22 = true then (some false) else (impl_FairOk.l0 k x245004 (x245004.length : Int) 0 x245000 x245001 x245002 x245003 x245004)
def impl_FairOk.l0 : Nat → List (S46) → Int → Int → Int → Int → Int → Int → List (S46) → Option (Bool)
  | 0, _, _, _, _, _, _, _, _ => none
  | k + 1, x24, x25, x26, x245000, x245001, x245002, x245003, x245004 => if x26 < x25 then (if 0 ≤ x26 then (if x26 < (x24.length : Int) then ((impl_Fair_kidOk.f x245000 x245001 x245002 x245003 x245004 ((rd_T46 x24 x26).f0) ((rd_T46 x24 x26).f1) ((rd_T46 x24 x26).f2) ((rd_T46 x24 x26).f3.f0) ((rd_T46 x24 x26).f3.f1) ((rd_T46 x24 x26).f3.f2)).bind fun t249 => (if t249 = true then (if x26 > 0 then (if 0 ≤ (wrap64 (x26 - 1)) then (if (wrap64 (x26 - 1)) < (x245004.length : Int) then (if ((rd_T46 x245004 (wrap64 (x26 - 1))).f0) ≥ ((rd_T46 x24 x26).f0) then (some false) else (impl_FairOk.l0 k x24 x25 (wrap64 (x26 + 1)) x245000 x245001 x245002 x245003 x245004)) else (none)) else (none)) else (impl_FairOk.l0 k x24 x25 (wrap64 (x26 + 1)) x245000 x245001 x245002 x245003 x245004)) else (some false))) else (none)) else (none)) else (some true)
end
def impl_FairOk.f (k : Nat) (a0_0 : Int) (a0_1 : Int) (a0_2 : Int) (a0_3 : Int) (l0_4 : List (S46)) : Option (Bool) := (impl_Narrow.f a0_1 a0_2 a0_3 a0_0).bind fun t245 => (if t245 = true then ((impl_VecTop.f a0_1 a0_2 a0_3).bind fun t246 => (if t246 > 100000000000 then (impl_FairOk.j0 k true a0_0 a0_1 a0_2 a0_3 l0_4) else (impl_FairOk.j0 k (decide ((l0_4.length : Int) > 48)) a0_0 a0_1 a0_2 a0_3 l0_4))) else (impl_FairOk.j0 k true a0_0 a0_1 a0_2 a0_3 l0_4))
theorem impl_FairOk.mono_l : ∀ k, (∀ y0 y1 y2 y3 y4 y5, LeO (impl_FairOk.j0 k y0 y1 y2 y3 y4 y5) (impl_FairOk.j0 (k + 1) y0 y1 y2 y3 y4 y5)) ∧ (∀ y0 y1 y2 y3 y4 y5 y6 y7, LeO (impl_FairOk.l0 k y0 y1 y2 y3 y4 y5 y6 y7) (impl_FairOk.l0 (k + 1) y0 y1 y2 y3 y4 y5 y6 y7))
 | 0 => ⟨fun _ _ _ _ _ _ r h => by simp [impl_FairOk.j0] at h, fun _ _ _ _ _ _ _ _ r h => by simp [impl_FairOk.l0] at h⟩
 | k + 1 => by
  obtain ⟨ih0, ih1⟩ := impl_FairOk.mono_l k
  refine ⟨?_, ?_⟩ <;> intros <;> (first | unfold impl_FairOk.j0 | unfold impl_FairOk.l0) <;> repeat' (first | (with_reducible exact ih0 ..) | (with_reducible exact ih1 ..) | (with_reducible exact LeO.refl _) | (with_reducible exact LeO.none _) | (with_reducible refine LeO.ite ?_ ?_) | (with_reducible refine LeO.bind ?_ (fun _ => ?_)) | exact ih0 .. | exact ih1 .. | exact LeO.none _ | refine LeO.ite ?_ ?_ | refine LeO.bind ?_ (fun _ => ?_))
theorem impl_FairOk.mono : ∀ a0 a1 a2 a3 a4 k, LeO (impl_FairOk.f k a0 a1 a2 a3 a4) (impl_FairOk.f (k + 1) a0 a1 a2 a3 a4) := by
 intro a0 a1 a2 a3 a4 k
 obtain ⟨ih0, ih1⟩ := impl_FairOk.mono_l k
 unfold impl_FairOk.f
 repeat' (first | (with_reducible exact ih0 ..) | (with_reducible exact ih1 ..) | (with_reducible exact LeO.refl _) | (with_reducible exact LeO.none _) | (with_reducible refine LeO.ite ?_ ?_) | (with_reducible refine LeO.bind ?_ (fun _ => ?_)) | exact ih0 .. | exact ih1 .. | exact LeO.none _ | refine LeO.ite ?_ ?_ | refine LeO.bind ?_ (fun _ => ?_))
def impl_FairOk.T6 : Bool × List (List Nat × List Nat) := (true, [([], []), ([], []), ([0, 1], [0, 1]), ([2], [2]), ([3, 2], [3]), ([4], [4]), ([5, 4], [4, 5]), ([6, 4, 4], [4, 6]), ([7], [7]), ([8, 7], [7, 8]), ([7], [7]), ([10, 7], [7, 10]), ([9, 11, 7], [7, 9, 11]), ([12, 7], [7, 12]), ([13, 7], [7, 13]), ([7], [7]), ([15, 7], [7, 15]), ([14, 16, 7], [7, 14, 16]), ([7, 17, 4], [4, 7, 17]), ([4, 18], [4, 18])])
def impl_FairOk.B6 : List Nat := [0, 0, 3, 7, 15, 31, 63, 127, 255, 511, 255, 1279, 4095, 8191, 16383, 255, 33023, 131071, 262143, 524287]
theorem impl_FairOk.tab6 : rtab .any (opsOf Try.f21 6) = impl_FairOk.T6 := by kernel_rfl
theorem impl_FairOk.bits6 : waitsOk impl_FairOk.T6.2 impl_FairOk.B6 = true := by kernel_rfl
set_option maxHeartbeats 8000000 in
set_option maxRecDepth 100000 in
theorem impl_FairOk.calls (k : Nat) (a0_0 : Int) (a0_1 : Int) (a0_2 : Int) (a0_3 : Int) (A0_4 : Option Addr) (c0_4 : Nat) (l0_4 : List (S46)) (r : Bool) (w : World) (hr0_4 : Kd.C k46 w A0_4 l0_4.length l0_4) (hc0_4 : l0_4.length ≤ c0_4) (h : impl_FairOk.f k a0_0 a0_1 a0_2 a0_3 l0_4 = some r) :
  Calls Try.prog 21 #[.agg #[.int .i64 a0_0, .int .i64 a0_1, .int .i64 a0_2, .int .i64 a0_3, .slice A0_4 l0_4.length c0_4]] w fun e w' => e = .returned (.bool r) ∧ Below w.heap.size w w' := by
 have hu31 := Try.underlying31; have hu28 := Try.underlying28; have hu46 := Try.underlying46
 have HR0_4 := Aside0.mk hr0_4
 have HC0_4 := Aside0.mk hc0_4
 clear hr0_4 hc0_4; have HB := Aside0.mk (Below.refl w.heap.size w)
 have H := h
 clear h
 unfold impl_FairOk.f at H
 have HC2 := Aside0.mk H
 clear H
 go_enter Try.func21, Try.ntmps21
 go_upto_region 1 with (first | ((with_reducible refine gd_ 1 rfl ?_); (try (refine gate_guard (by rfl) ?_; dsimp only)); refine bv_ 1 #[.int .i64 a0_0, .int .i64 a0_1, .int .i64 a0_2, .int .i64 a0_3, .slice A0_4 l0_4.length c0_4] 31 ?_; intro gb244 hg w3 hbox hb; have BK244 := Aside0.mk (hbox); have GW244 := gw_ HB hg; have GE244 := gw_ HB hg; replace HB := Aside0.mk (below_step (be_ HB) hb); clear hb hbox hg))
 (try simp only [Act.put, ls0_, ls1_, ls2_])
 go_cut [22] (fun v22 wc => ∃ (kq : Nat) (x22_1 : Bool), v22 = .bool x22_1 ∧ Aside0 (impl_FairOk.j0 kq x22_1 a0_0 a0_1 a0_2 a0_3 l0_4 = some r) ∧ Aside0 (kq ≤ k) ∧ Aside0 (wc.heap[gb244]? = some (.cells #[.int .i64 a0_0, .int .i64 a0_1, .int .i64 a0_2, .int .i64 a0_3, (.slice A0_4 l0_4.length c0_4)] 31 (0, 0))) ∧ Aside0 (Below w.heap.size w wc))
 case first =>
  have H := HC2.out
  clear HC2
  replace H := Option.bind_eq_some_iff.mp H
  obtain ⟨t245, A40, H⟩ := H
  have A4 := Aside0.mk A40
  clear A40
  by_cases c5 : t245 = true
  ·subst c5
   rw [if_pos rfl] at H
   replace H := Option.bind_eq_some_iff.mp H
   obtain ⟨t246, A60, H⟩ := H
   have A6 := Aside0.mk A60
   clear A60
   by_cases c7 : t246 > 100000000000
   ·rw [if_pos c7] at H
    have c7b0 : decide (100000000000 < t246) = true := decide_eq_true c7
    clear c7
    (first | rw [c7b0] | (simp only [i64_w, i32_w]; rw [c7b0]) | skip)
    have H' := Aside0.mk H
    clear H; obtain ⟨hcz8_0, hcz8_1, hcz8_2, hcz8_3, hcz8_4, hfz8_0, hfz8_1, hfz8_2, hfz8_3, hfz8_4⟩ := bz5_ BK244
    go_wp2_with (first | ((with_reducible refine gc_ 51 rfl ?_); refine gl_ 9 Try.func51 #[.agg #[.int .i64 a0_1, .int .i64 a0_2, .int .i64 a0_3], .int .i64 a0_0] ?_; (with_reducible refine (impl_Narrow.calls a0_1 a0_2 a0_3 a0_0 true _ A4.out).mono ?_); rintro e w9 ⟨rfl, hb⟩; refine ⟨_, rfl, ?_⟩; replace BK244 := bb_ BK244 hb; replace HB := Aside0.mk (below_step (bf_ HB) hb); (try clear hb); (try clear hb2); (try clear hk); (try clear hi); obtain ⟨hcz10_0, hcz10_1, hcz10_2, hcz10_3, hcz10_4, hfz10_0, hfz10_1, hfz10_2, hfz10_3, hfz10_4⟩ := bz5_ BK244) | (go_at_call 52; (with_reducible refine (impl_VecTop.calls a0_1 a0_2 a0_3 t246 _ A6.out).mono ?_); rintro e w11 ⟨rfl, hb⟩; replace BK244 := bb_ BK244 hb; replace HB := Aside0.mk (below_step (bf_ HB) hb); (try clear hb); (try clear hb2); (try clear hk); (try clear hi)))
    go_meet
    case rel => exact ⟨_, (true), (by first | rfl | (simp; done) | (simp [*]; done)), H', ⟨by first | omega | exact Nat.le_refl _⟩, ⟨bk_ BK244⟩, ⟨bf_ HB⟩⟩
   ·rw [if_neg c7] at H
    have c7b0 : decide (100000000000 < t246) = false := decide_eq_false c7
    clear c7
    (first | rw [c7b0] | (simp only [i64_w, i32_w]; rw [c7b0]) | skip)
    have H' := Aside0.mk H
    clear H; obtain ⟨hcz12_0, hcz12_1, hcz12_2, hcz12_3, hcz12_4, hfz12_0, hfz12_1, hfz12_2, hfz12_3, hfz12_4⟩ := bz5_ BK244
    go_wp2_with (first | ((with_reducible refine gc_ 51 rfl ?_); refine gl_ 9 Try.func51 #[.agg #[.int .i64 a0_1, .int .i64 a0_2, .int .i64 a0_3], .int .i64 a0_0] ?_; (with_reducible refine (impl_Narrow.calls a0_1 a0_2 a0_3 a0_0 true _ A4.out).mono ?_); rintro e w13 ⟨rfl, hb⟩; refine ⟨_, rfl, ?_⟩; replace BK244 := bb_ BK244 hb; replace HB := Aside0.mk (below_step (bf_ HB) hb); (try clear hb); (try clear hb2); (try clear hk); (try clear hi); obtain ⟨hcz14_0, hcz14_1, hcz14_2, hcz14_3, hcz14_4, hfz14_0, hfz14_1, hfz14_2, hfz14_3, hfz14_4⟩ := bz5_ BK244) | (go_at_call 52; (with_reducible refine (impl_VecTop.calls a0_1 a0_2 a0_3 t246 _ A6.out).mono ?_); rintro e w15 ⟨rfl, hb⟩; replace BK244 := bb_ BK244 hb; replace HB := Aside0.mk (below_step (bf_ HB) hb); (try clear hb); (try clear hb2); (try clear hk); (try clear hi); obtain ⟨hcz16_0, hcz16_1, hcz16_2, hcz16_3, hcz16_4, hfz16_0, hfz16_1, hfz16_2, hfz16_3, hfz16_4⟩ := bz5_ BK244))
    go_meet
    case rel => exact ⟨_, (decide ((l0_4.length : Int) > 48)), (by first | rfl | (simp; done) | (simp [*]; done)), H', ⟨by first | omega | exact Nat.le_refl _⟩, ⟨bk_ BK244⟩, ⟨bf_ HB⟩⟩
  ·replace c5 := Bool.eq_false_iff.mpr c5
   subst c5
   rw [if_neg (show ¬ (false = true) by decide)] at H
   have H' := Aside0.mk H
   clear H; obtain ⟨hcz17_0, hcz17_1, hcz17_2, hcz17_3, hcz17_4, hfz17_0, hfz17_1, hfz17_2, hfz17_3, hfz17_4⟩ := bz5_ BK244
   go_wp2_with (first | ((with_reducible refine gc_ 51 rfl ?_); refine gl_ 9 Try.func51 #[.agg #[.int .i64 a0_1, .int .i64 a0_2, .int .i64 a0_3], .int .i64 a0_0] ?_; (with_reducible refine (impl_Narrow.calls a0_1 a0_2 a0_3 a0_0 false _ A4.out).mono ?_); rintro e w18 ⟨rfl, hb⟩; refine ⟨_, rfl, ?_⟩; replace BK244 := bb_ BK244 hb; replace HB := Aside0.mk (below_step (bf_ HB) hb); (try clear hb); (try clear hb2); (try clear hk); (try clear hi)))
   go_meet
   case rel => exact ⟨_, (true), (by first | rfl | (simp; done) | (simp [*]; done)), H', ⟨by first | omega | exact Nat.le_refl _⟩, ⟨bk_ BK244⟩, ⟨bf_ HB⟩⟩
 case rest =>
  clear HC2; (try clear c2); (try clear p2); (try clear c5); (try clear c7); (try clear c7b0); (try clear hcz10_0 hcz10_1 hcz10_2 hcz10_3 hcz10_4 hfz10_0 hfz10_1 hfz10_2 hfz10_3 hfz10_4); (try clear hcz12_0 hcz12_1 hcz12_2 hcz12_3 hcz12_4 hfz12_0 hfz12_1 hfz12_2 hfz12_3 hfz12_4); (try clear hcz14_0 hcz14_1 hcz14_2 hcz14_3 hcz14_4 hfz14_0 hfz14_1 hfz14_2 hfz14_3 hfz14_4); (try clear hcz16_0 hcz16_1 hcz16_2 hcz16_3 hcz16_4 hfz16_0 hfz16_1 hfz16_2 hfz16_3 hfz16_4); (try clear hcz17_0 hcz17_1 hcz17_2 hcz17_3 hcz17_4 hfz17_0 hfz17_1 hfz17_2 hfz17_3 hfz17_4); (try clear hcz8_0 hcz8_1 hcz8_2 hcz8_3 hcz8_4 hfz8_0 hfz8_1 hfz8_2 hfz8_3 hfz8_4)
  obtain ⟨kq, x22_1, rfl, HA, HJ1, BK244, HB⟩ := hcut
  cases kq with
  | zero => exact absurd HA.out (by simp [impl_FairOk.j0])
  | succ kj1 =>
   have H := HA.out
   clear HA
   simp only [impl_FairOk.j0] at H
   by_cases c19 : x22_1 = true
   ·subst c19
    rw [if_pos rfl] at H
    obtain rfl := Option.some.inj H
    go_wp2
    go_ret
    exact ⟨by first | rfl | (simp [errW_none, errW_some] <;> rfl) | (simp [*, errW_none, errW_some] <;> rfl), bf_ HB⟩
   ·replace c19 := Bool.eq_false_iff.mpr c19
    subst c19
    rw [if_neg (show ¬ (false = true) by decide)] at H
    have H' := Aside0.mk H
    clear H; obtain ⟨hcz20_0, hcz20_1, hcz20_2, hcz20_3, hcz20_4, hfz20_0, hfz20_1, hfz20_2, hfz20_3, hfz20_4⟩ := bz5_ BK244
    go_wp2
    go_loopg [26] kj1 (fun kq v26 w' => ∃ (x26_2 : Int), v26 = .int .i64 x26_2 ∧ Aside0 (impl_FairOk.l0 kq l0_4 (l0_4.length : Int) x26_2 a0_0 a0_1 a0_2 a0_3 l0_4 = some r) ∧ Aside0 (kq ≤ kj1) ∧ Aside0 (w'.heap[gb244]? = some (.cells #[.int .i64 a0_0, .int .i64 a0_1, .int .i64 a0_2, .int .i64 a0_3, (.slice A0_4 l0_4.length c0_4)] 31 (0, 0))) ∧ Aside0 (Below w.heap.size w w'))
    case atStart => exact ⟨(0), (by first | rfl | (simp; done) | (simp [*]; done)), H', ⟨Nat.le_refl _⟩, ⟨bk_ BK244⟩, ⟨bf_ HB⟩⟩
    case round =>
     clear H'
     (try clear c1); (try clear c2); (try clear p2 p2); (try clear c5); (try clear c7); (try clear c7b0); (try clear c19); (try clear hcz10_0 hcz10_1 hcz10_2 hcz10_3 hcz10_4 hfz10_0 hfz10_1 hfz10_2 hfz10_3 hfz10_4); (try clear hcz12_0 hcz12_1 hcz12_2 hcz12_3 hcz12_4 hfz12_0 hfz12_1 hfz12_2 hfz12_3 hfz12_4); (try clear hcz14_0 hcz14_1 hcz14_2 hcz14_3 hcz14_4 hfz14_0 hfz14_1 hfz14_2 hfz14_3 hfz14_4); (try clear hcz16_0 hcz16_1 hcz16_2 hcz16_3 hcz16_4 hfz16_0 hfz16_1 hfz16_2 hfz16_3 hfz16_4); (try clear hcz17_0 hcz17_1 hcz17_2 hcz17_3 hcz17_4 hfz17_0 hfz17_1 hfz17_2 hfz17_3 hfz17_4); (try clear hcz20_0 hcz20_1 hcz20_2 hcz20_3 hcz20_4 hfz20_0 hfz20_1 hfz20_2 hfz20_3 hfz20_4); (try clear hcz8_0 hcz8_1 hcz8_2 hcz8_3 hcz8_4 hfz8_0 hfz8_1 hfz8_2 hfz8_3 hfz8_4)
     obtain ⟨x26_2, rfl, HA, HK2, BK244, HB⟩ := hrel
     cases gk with
     | zero => exact absurd HA.out (by simp [impl_FairOk.l0])
     | succ k2 =>
      have H := HA.out
      clear HA
      simp only [impl_FairOk.l0] at H
      by_cases c21 : x26_2 < (l0_4.length : Int)
      ·rw [if_pos c21] at H
       have c21b0 : decide (x26_2 < (l0_4.length : Int)) = true := decide_eq_true c21
       clear c21
       by_cases c22 : 0 ≤ x26_2
       ·rw [if_pos c22] at H
        have c22b0 : decide (0 ≤ x26_2) = true := decide_eq_true c22
        clear c22
        by_cases c23 : x26_2 < (l0_4.length : Int)
        ·rw [if_pos c23] at H
         have c23b0 : decide (x26_2 < (l0_4.length : Int)) = true := decide_eq_true c23
         clear c23
         replace H := Option.bind_eq_some_iff.mp H
         obtain ⟨t249, A240, H⟩ := H
         have A24 := Aside0.mk A240
         clear A240
         by_cases c25 : t249 = true
         ·subst c25
          rw [if_pos rfl] at H
          by_cases c26 : x26_2 > 0
          ·rw [if_pos c26] at H
           have c26b0 : decide (0 < x26_2) = true := decide_eq_true c26
           clear c26
           obtain ⟨ji27, hji27⟩ : ∃ j_ : Int, (wrap64 (x26_2 - 1)) = j_ := ⟨_, rfl⟩
           replace H : (if 0 ≤ (ji27) then (if (ji27) < (l0_4.length : Int) then (if ((rd_T46 l0_4 (ji27)).f0) ≥ ((rd_T46 l0_4 x26_2).f0) then (some false) else (impl_FairOk.l0 k2 l0_4 (l0_4.length : Int) (wrap64 (x26_2 + 1)) a0_0 a0_1 a0_2 a0_3 l0_4)) else (none)) else (none)) = some r := by first | (rw [hji27] at H; exact H) | (simp only [hji27] at H ⊢; exact H)
           (try rw [hji27] at A24)
           have hji27w : (IntKind.i64.wrap (x26_2 - 1)) = ji27 := (i64_w _).trans hji27
           by_cases c28 : 0 ≤ (ji27)
           ·rw [if_pos c28] at H
            have c28b0 : decide (0 ≤ (ji27)) = true := decide_eq_true c28
            clear c28
            by_cases c29 : (ji27) < (l0_4.length : Int)
            ·rw [if_pos c29] at H
             have c29b0 : decide ((ji27) < (l0_4.length : Int)) = true := decide_eq_true c29
             clear c29
             by_cases c30 : ((rd_T46 l0_4 (ji27)).f0) ≥ ((rd_T46 l0_4 x26_2).f0)
             ·rw [if_pos c30] at H
              have c30b0 : decide (((rd_T46 l0_4 x26_2).f0) ≤ ((rd_T46 l0_4 (ji27)).f0)) = true := decide_eq_true c30
              clear c30
              obtain rfl := Option.some.inj H
              have p247 : 0 ≤ (x26_2 : Int) := od_
              have q247 : x26_2 < (l0_4.length : Int) := od_
              obtain ⟨ad247, e247, hx247_0, hx247_1, hx247_2, hx247_3, hx247_4, hx247_5⟩ := at_T46 HR0_4.out x26_2 p247 q247
              cases e247
              replace hx247_0 := hb_ HB hx247_0
              replace hx247_1 := hb_ HB hx247_1
              replace hx247_2 := hb_ HB hx247_2
              replace hx247_3 := hb_ HB hx247_3
              replace hx247_4 := hb_ HB hx247_4
              replace hx247_5 := hb_ HB hx247_5
              replace p247 := eq_true p247
              replace q247 := eq_true q247
              try go_wp2_with (first | ((with_reducible refine gd_ 4 rfl ?_); (try (refine gate_guard (by rfl) ?_; dsimp only)); refine bv_ 4 #[.int .i64 0, .int .i64 0, .bool false, .int .i64 0, .int .i64 0, .int .i64 0] 46 ?_; intro gb248 hg w31 hbox hb; have BK248 := Aside0.mk (hbox); have GW248 := gw_ HB hg; have GE248 := gw_ HB hg; replace HB := Aside0.mk (below_step (bf_ HB) hb); have NB244_248 := nl_ BK244 hg; have NB248_244 := ng_ BK244 hg; replace BK244 := bb_ BK244 hb; clear hb hbox hg; have hnb32 := NB248_244.out; have hnc32 := NB244_248.out; obtain ⟨hcz33_0, hcz33_1, hcz33_2, hcz33_3, hcz33_4, hcz33_5, hfz33_0, hfz33_1, hfz33_2, hfz33_3, hfz33_4, hfz33_5⟩ := bz6_ BK248))
              generalize hW_ : ((((((w31.setCell ⟨gb248, 0, none⟩ (.int .i64 ((rd_T46 l0_4 x26_2).f0))).setCell ⟨gb248, 1, none⟩ (.int .i64 ((rd_T46 l0_4 x26_2).f1))).setCell ⟨gb248, 2, none⟩ (.bool ((rd_T46 l0_4 x26_2).f2))).setCell ⟨gb248, 3, none⟩ (.int .i64 ((rd_T46 l0_4 x26_2).f3.f0))).setCell ⟨gb248, 4, none⟩ (.int .i64 ((rd_T46 l0_4 x26_2).f3.f1))).setCell ⟨gb248, 5, none⟩ (.int .i64 ((rd_T46 l0_4 x26_2).f3.f2))) = w34
              replace BK244 := fc6_ hW_ BK244 NB244_248
              replace BK248 : Aside0 (w34.heap[gb248]? = some (.cells #[.int .i64 ((rd_T46 l0_4 x26_2).f0), .int .i64 ((rd_T46 l0_4 x26_2).f1), .bool ((rd_T46 l0_4 x26_2).f2), .int .i64 ((rd_T46 l0_4 x26_2).f3.f0), .int .i64 ((rd_T46 l0_4 x26_2).f3.f1), .int .i64 ((rd_T46 l0_4 x26_2).f3.f2)] 46 (0, 0))) := pc6_ hW_ BK248
              replace HB : Aside0 (Below w.heap.size w w34) := ⟨by cases hW_; exact bf_ HB⟩
              clear hW_; replace BK244 := Aside0.mk (blk_drew BK244.out); replace BK248 := Aside0.mk (blk_drew BK248.out); replace HB := Aside0.mk (below_drew1 HB.out)
              have p250 : 0 ≤ ((ji27) : Int) := od_
              have q250 : (ji27) < (l0_4.length : Int) := od_
              obtain ⟨ad250, e250, hx250_0, hx250_1, hx250_2, hx250_3, hx250_4, hx250_5⟩ := at_T46 HR0_4.out (ji27) p250 q250
              have hw250_5 := hx250_5; have hw250_4 := hx250_4; have hw250_3 := hx250_3; have hw250_2 := hx250_2; have hw250_1 := hx250_1; have hw250_0 := hx250_0
              obtain rfl : ad247 = ad250 := (by injection e250)
              replace hx250_0 := hb_ HB hx250_0
              replace hx250_1 := hb_ HB hx250_1
              replace hx250_2 := hb_ HB hx250_2
              replace hx250_3 := hb_ HB hx250_3
              replace hx250_4 := hb_ HB hx250_4
              replace hx250_5 := hb_ HB hx250_5
              replace p250 := eq_true p250
              replace q250 := eq_true q250
              refine start_ (n := 20) (S := fun w' => cw_ w' gb244 0 (.int .i64 a0_0) ∧ cw_ w' gb244 1 (.int .i64 a0_1) ∧ cw_ w' gb244 2 (.int .i64 a0_2) ∧ cw_ w' gb244 3 (.int .i64 a0_3) ∧ cw_ w' gb244 4 (.slice (some ad247) l0_4.length c0_4) ∧ cw_ w' gb248 0 (.int .i64 ((rd_T46 l0_4 x26_2).f0)) ∧ cw_ w' gb248 1 (.int .i64 ((rd_T46 l0_4 x26_2).f1)) ∧ cw_ w' gb248 2 (.bool ((rd_T46 l0_4 x26_2).f2)) ∧ cw_ w' gb248 3 (.int .i64 ((rd_T46 l0_4 x26_2).f3.f0)) ∧ cw_ w' gb248 4 (.int .i64 ((rd_T46 l0_4 x26_2).f3.f1)) ∧ cw_ w' gb248 5 (.int .i64 ((rd_T46 l0_4 x26_2).f3.f2)) ∧ w'.cell? (ad247.add (((ji27)).toNat * 6)) = some (.int .i64 ((rd_T46 l0_4 (ji27)).f0)) ∧ w'.cell? ⟨(ad247.add (((ji27)).toNat * 6)).block, (ad247.add (((ji27)).toNat * 6)).off + 1, none⟩ = some (.int .i64 ((rd_T46 l0_4 (ji27)).f1)) ∧ w'.cell? ⟨(ad247.add (((ji27)).toNat * 6)).block, (ad247.add (((ji27)).toNat * 6)).off + 2, none⟩ = some (.bool ((rd_T46 l0_4 (ji27)).f2)) ∧ w'.cell? ⟨(ad247.add (((ji27)).toNat * 6)).block, (ad247.add (((ji27)).toNat * 6)).off + 3, none⟩ = some (.int .i64 ((rd_T46 l0_4 (ji27)).f3.f0)) ∧ w'.cell? ⟨(ad247.add (((ji27)).toNat * 6)).block, (ad247.add (((ji27)).toNat * 6)).off + 4, none⟩ = some (.int .i64 ((rd_T46 l0_4 (ji27)).f3.f1)) ∧ w'.cell? ⟨(ad247.add (((ji27)).toNat * 6)).block, (ad247.add (((ji27)).toNat * 6)).off + 5, none⟩ = some (.int .i64 ((rd_T46 l0_4 (ji27)).f3.f2))) (ds := []) (bs 20 0) (by kernel_rfl) rfl rfl ⟨bt_ BK244 0, bt_ BK244 1, bt_ BK244 2, bt_ BK244 3, bt_ BK244 4, bt_ BK248 0, bt_ BK248 1, bt_ BK248 2, bt_ BK248 3, bt_ BK248 4, bt_ BK248 5, (hd_ HB hw250_0), (hd_ HB hw250_1), (hd_ HB hw250_2), (hd_ HB hw250_3), (hd_ HB hw250_4), (hd_ HB hw250_5)⟩ (fun hHeld => ?_); refine with_tabW impl_FairOk.tab6 impl_FairOk.bits6 (fun HT_ HW_ => ?_)
              generalize w34.drew = w35 at BK244 BK248 HB hx250_0 hx250_1 hx250_2 hx250_3 hx250_4 hx250_5 hHeld ⊢
              iterate 2 (refine tkn_ HT_ HW_ hHeld ?_)
              refine on_ 2 (some 33) (bs 20 3) HT_ (fun K hK => ?_)
              refine gs_ Try.func53 #[.agg #[.int .i64 a0_0, .int .i64 a0_1, .int .i64 a0_2, .int .i64 a0_3, .slice (some ad247) l0_4.length c0_4], .agg #[.int .i64 ((rd_T46 l0_4 x26_2).f0), .int .i64 ((rd_T46 l0_4 x26_2).f1), .bool ((rd_T46 l0_4 x26_2).f2), .int .i64 ((rd_T46 l0_4 x26_2).f3.f0), .int .i64 ((rd_T46 l0_4 x26_2).f3.f1), .int .i64 ((rd_T46 l0_4 x26_2).f3.f2)]] ?_
              with_reducible refine (impl_Fair_kidOk.calls a0_0 a0_1 a0_2 a0_3 _ _ l0_4 ((rd_T46 l0_4 x26_2).f0) ((rd_T46 l0_4 x26_2).f1) ((rd_T46 l0_4 x26_2).f2) ((rd_T46 l0_4 x26_2).f3.f0) ((rd_T46 l0_4 x26_2).f3.f1) ((rd_T46 l0_4 x26_2).f3.f2) true _ ?side1 ?side2 A24.out).mono ?_
              (case side1 => repeat (first | exact (Kd.C_below HR0_4.out HB.out) | (with_reducible refine Kd.C_alloc ?_ _) | (with_reducible refine Kd.C_drewN ?_ _) | (with_reducible refine Kd.C_drew ?_)))
              (case side2 => exact HC0_4.out)
              rintro e w36 ⟨rfl, hb⟩
              refine ⟨_, rfl, ?_⟩
              replace BK244 := bb_ BK244 hb; replace BK248 := bb_ BK248 hb; replace HB := Aside0.mk (below_step (bf_ HB) hb); (try clear hb); (try clear hb2); (try clear hk); (try clear hi)
              refine hK.out _ _ ⟨bt_ BK244 0, bt_ BK244 1, bt_ BK244 2, bt_ BK244 3, bt_ BK244 4, bt_ BK248 0, bt_ BK248 1, bt_ BK248 2, bt_ BK248 3, bt_ BK248 4, bt_ BK248 5, (hd_ HB hw250_0), (hd_ HB hw250_1), (hd_ HB hw250_2), (hd_ HB hw250_3), (hd_ HB hw250_4), (hd_ HB hw250_5)⟩ (fun hHeld => ?_)
              clear hK K
              refine norm_ (a' := ?_) ?_ ?_
              rotate_left
              ·show Act.put _ (some 33) _ = _
               simp only [Act.put, ls0_, ls1_, ls2_, i64_w, i32_w]
               rfl
              iterate 6 (refine psn_ HT_ ?_)
              refine ps_ 10 41 (bm 20 1535) HT_ ?_
              refine ps_ 11 42 (bm 20 3583) HT_ ?_
              refine ps_ 15 46 (bm 20 36351) HT_ ?_
              refine tk_ 9 40 (bm 20 36863) HT_ HW_ hHeld ?_
              refine ps_ 12 43 (bm 20 40959) HT_ ?_
              refine ps_ 13 44 (bm 20 49151) HT_ ?_
              refine tk_ 14 45 (bs 20 16) HT_ HW_ hHeld ?_
              refine tkn_ HT_ HW_ hHeld ?_
              iterate 3 (refine psn_ HT_ ?_)
              refine done_ (done_of HT_.out (by kernel_rfl)) ?_
              try go_wp2
              go_ret
              exact ⟨by first | rfl | (simp [errW_none, errW_some] <;> rfl) | (simp only [← hji27]; first | rfl | (simp [errW_none, errW_some] <;> rfl)) | (simp [*, errW_none, errW_some] <;> rfl), bf_ HB⟩
             ·rw [if_neg c30] at H
              have c30b0 : decide (((rd_T46 l0_4 x26_2).f0) ≤ ((rd_T46 l0_4 (ji27)).f0)) = false := decide_eq_false c30
              clear c30
              have H' := Aside0.mk H
              clear H
              have p247 : 0 ≤ (x26_2 : Int) := od_
              have q247 : x26_2 < (l0_4.length : Int) := od_
              obtain ⟨ad247, e247, hx247_0, hx247_1, hx247_2, hx247_3, hx247_4, hx247_5⟩ := at_T46 HR0_4.out x26_2 p247 q247
              cases e247
              replace hx247_0 := hb_ HB hx247_0
              replace hx247_1 := hb_ HB hx247_1
              replace hx247_2 := hb_ HB hx247_2
              replace hx247_3 := hb_ HB hx247_3
              replace hx247_4 := hb_ HB hx247_4
              replace hx247_5 := hb_ HB hx247_5
              replace p247 := eq_true p247
              replace q247 := eq_true q247
              try go_wp2_with (first | ((with_reducible refine gd_ 4 rfl ?_); (try (refine gate_guard (by rfl) ?_; dsimp only)); refine bv_ 4 #[.int .i64 0, .int .i64 0, .bool false, .int .i64 0, .int .i64 0, .int .i64 0] 46 ?_; intro gb248 hg w37 hbox hb; have BK248 := Aside0.mk (hbox); have GW248 := gw_ HB hg; have GE248 := gw_ HB hg; replace HB := Aside0.mk (below_step (bf_ HB) hb); have NB244_248 := nl_ BK244 hg; have NB248_244 := ng_ BK244 hg; replace BK244 := bb_ BK244 hb; clear hb hbox hg; have hnb38 := NB248_244.out; have hnc38 := NB244_248.out; obtain ⟨hcz39_0, hcz39_1, hcz39_2, hcz39_3, hcz39_4, hcz39_5, hfz39_0, hfz39_1, hfz39_2, hfz39_3, hfz39_4, hfz39_5⟩ := bz6_ BK248))
              generalize hW_ : ((((((w37.setCell ⟨gb248, 0, none⟩ (.int .i64 ((rd_T46 l0_4 x26_2).f0))).setCell ⟨gb248, 1, none⟩ (.int .i64 ((rd_T46 l0_4 x26_2).f1))).setCell ⟨gb248, 2, none⟩ (.bool ((rd_T46 l0_4 x26_2).f2))).setCell ⟨gb248, 3, none⟩ (.int .i64 ((rd_T46 l0_4 x26_2).f3.f0))).setCell ⟨gb248, 4, none⟩ (.int .i64 ((rd_T46 l0_4 x26_2).f3.f1))).setCell ⟨gb248, 5, none⟩ (.int .i64 ((rd_T46 l0_4 x26_2).f3.f2))) = w40
              replace BK244 := fc6_ hW_ BK244 NB244_248
              replace BK248 : Aside0 (w40.heap[gb248]? = some (.cells #[.int .i64 ((rd_T46 l0_4 x26_2).f0), .int .i64 ((rd_T46 l0_4 x26_2).f1), .bool ((rd_T46 l0_4 x26_2).f2), .int .i64 ((rd_T46 l0_4 x26_2).f3.f0), .int .i64 ((rd_T46 l0_4 x26_2).f3.f1), .int .i64 ((rd_T46 l0_4 x26_2).f3.f2)] 46 (0, 0))) := pc6_ hW_ BK248
              replace HB : Aside0 (Below w.heap.size w w40) := ⟨by cases hW_; exact bf_ HB⟩
              clear hW_; replace BK244 := Aside0.mk (blk_drew BK244.out); replace BK248 := Aside0.mk (blk_drew BK248.out); replace HB := Aside0.mk (below_drew1 HB.out)
              have p250 : 0 ≤ ((ji27) : Int) := od_
              have q250 : (ji27) < (l0_4.length : Int) := od_
              obtain ⟨ad250, e250, hx250_0, hx250_1, hx250_2, hx250_3, hx250_4, hx250_5⟩ := at_T46 HR0_4.out (ji27) p250 q250
              have hw250_5 := hx250_5; have hw250_4 := hx250_4; have hw250_3 := hx250_3; have hw250_2 := hx250_2; have hw250_1 := hx250_1; have hw250_0 := hx250_0
              obtain rfl : ad247 = ad250 := (by injection e250)
              replace hx250_0 := hb_ HB hx250_0
              replace hx250_1 := hb_ HB hx250_1
              replace hx250_2 := hb_ HB hx250_2
              replace hx250_3 := hb_ HB hx250_3
              replace hx250_4 := hb_ HB hx250_4
              replace hx250_5 := hb_ HB hx250_5
              replace p250 := eq_true p250
              replace q250 := eq_true q250
              refine start_ (n := 20) (S := fun w' => cw_ w' gb244 0 (.int .i64 a0_0) ∧ cw_ w' gb244 1 (.int .i64 a0_1) ∧ cw_ w' gb244 2 (.int .i64 a0_2) ∧ cw_ w' gb244 3 (.int .i64 a0_3) ∧ cw_ w' gb244 4 (.slice (some ad247) l0_4.length c0_4) ∧ cw_ w' gb248 0 (.int .i64 ((rd_T46 l0_4 x26_2).f0)) ∧ cw_ w' gb248 1 (.int .i64 ((rd_T46 l0_4 x26_2).f1)) ∧ cw_ w' gb248 2 (.bool ((rd_T46 l0_4 x26_2).f2)) ∧ cw_ w' gb248 3 (.int .i64 ((rd_T46 l0_4 x26_2).f3.f0)) ∧ cw_ w' gb248 4 (.int .i64 ((rd_T46 l0_4 x26_2).f3.f1)) ∧ cw_ w' gb248 5 (.int .i64 ((rd_T46 l0_4 x26_2).f3.f2)) ∧ w'.cell? (ad247.add (((ji27)).toNat * 6)) = some (.int .i64 ((rd_T46 l0_4 (ji27)).f0)) ∧ w'.cell? ⟨(ad247.add (((ji27)).toNat * 6)).block, (ad247.add (((ji27)).toNat * 6)).off + 1, none⟩ = some (.int .i64 ((rd_T46 l0_4 (ji27)).f1)) ∧ w'.cell? ⟨(ad247.add (((ji27)).toNat * 6)).block, (ad247.add (((ji27)).toNat * 6)).off + 2, none⟩ = some (.bool ((rd_T46 l0_4 (ji27)).f2)) ∧ w'.cell? ⟨(ad247.add (((ji27)).toNat * 6)).block, (ad247.add (((ji27)).toNat * 6)).off + 3, none⟩ = some (.int .i64 ((rd_T46 l0_4 (ji27)).f3.f0)) ∧ w'.cell? ⟨(ad247.add (((ji27)).toNat * 6)).block, (ad247.add (((ji27)).toNat * 6)).off + 4, none⟩ = some (.int .i64 ((rd_T46 l0_4 (ji27)).f3.f1)) ∧ w'.cell? ⟨(ad247.add (((ji27)).toNat * 6)).block, (ad247.add (((ji27)).toNat * 6)).off + 5, none⟩ = some (.int .i64 ((rd_T46 l0_4 (ji27)).f3.f2))) (ds := []) (bs 20 0) (by kernel_rfl) rfl rfl ⟨bt_ BK244 0, bt_ BK244 1, bt_ BK244 2, bt_ BK244 3, bt_ BK244 4, bt_ BK248 0, bt_ BK248 1, bt_ BK248 2, bt_ BK248 3, bt_ BK248 4, bt_ BK248 5, (hd_ HB hw250_0), (hd_ HB hw250_1), (hd_ HB hw250_2), (hd_ HB hw250_3), (hd_ HB hw250_4), (hd_ HB hw250_5)⟩ (fun hHeld => ?_); refine with_tabW impl_FairOk.tab6 impl_FairOk.bits6 (fun HT_ HW_ => ?_)
              generalize w40.drew = w41 at BK244 BK248 HB hx250_0 hx250_1 hx250_2 hx250_3 hx250_4 hx250_5 hHeld ⊢
              iterate 2 (refine tkn_ HT_ HW_ hHeld ?_)
              refine on_ 2 (some 33) (bs 20 3) HT_ (fun K hK => ?_)
              refine gs_ Try.func53 #[.agg #[.int .i64 a0_0, .int .i64 a0_1, .int .i64 a0_2, .int .i64 a0_3, .slice (some ad247) l0_4.length c0_4], .agg #[.int .i64 ((rd_T46 l0_4 x26_2).f0), .int .i64 ((rd_T46 l0_4 x26_2).f1), .bool ((rd_T46 l0_4 x26_2).f2), .int .i64 ((rd_T46 l0_4 x26_2).f3.f0), .int .i64 ((rd_T46 l0_4 x26_2).f3.f1), .int .i64 ((rd_T46 l0_4 x26_2).f3.f2)]] ?_
              with_reducible refine (impl_Fair_kidOk.calls a0_0 a0_1 a0_2 a0_3 _ _ l0_4 ((rd_T46 l0_4 x26_2).f0) ((rd_T46 l0_4 x26_2).f1) ((rd_T46 l0_4 x26_2).f2) ((rd_T46 l0_4 x26_2).f3.f0) ((rd_T46 l0_4 x26_2).f3.f1) ((rd_T46 l0_4 x26_2).f3.f2) true _ ?side1 ?side2 A24.out).mono ?_
              (case side1 => repeat (first | exact (Kd.C_below HR0_4.out HB.out) | (with_reducible refine Kd.C_alloc ?_ _) | (with_reducible refine Kd.C_drewN ?_ _) | (with_reducible refine Kd.C_drew ?_)))
              (case side2 => exact HC0_4.out)
              rintro e w42 ⟨rfl, hb⟩
              refine ⟨_, rfl, ?_⟩
              replace BK244 := bb_ BK244 hb; replace BK248 := bb_ BK248 hb; replace HB := Aside0.mk (below_step (bf_ HB) hb); (try clear hb); (try clear hb2); (try clear hk); (try clear hi)
              refine hK.out _ _ ⟨bt_ BK244 0, bt_ BK244 1, bt_ BK244 2, bt_ BK244 3, bt_ BK244 4, bt_ BK248 0, bt_ BK248 1, bt_ BK248 2, bt_ BK248 3, bt_ BK248 4, bt_ BK248 5, (hd_ HB hw250_0), (hd_ HB hw250_1), (hd_ HB hw250_2), (hd_ HB hw250_3), (hd_ HB hw250_4), (hd_ HB hw250_5)⟩ (fun hHeld => ?_)
              clear hK K
              refine norm_ (a' := ?_) ?_ ?_
              rotate_left
              ·show Act.put _ (some 33) _ = _
               simp only [Act.put, ls0_, ls1_, ls2_, i64_w, i32_w]
               rfl
              iterate 6 (refine psn_ HT_ ?_)
              refine ps_ 10 41 (bm 20 1535) HT_ ?_
              refine ps_ 11 42 (bm 20 3583) HT_ ?_
              refine ps_ 15 46 (bm 20 36351) HT_ ?_
              refine tk_ 9 40 (bm 20 36863) HT_ HW_ hHeld ?_
              refine ps_ 12 43 (bm 20 40959) HT_ ?_
              refine ps_ 13 44 (bm 20 49151) HT_ ?_
              refine tk_ 14 45 (bs 20 16) HT_ HW_ hHeld ?_
              refine tkn_ HT_ HW_ hHeld ?_
              iterate 3 (refine psn_ HT_ ?_)
              refine done_ (done_of HT_.out (by kernel_rfl)) ?_
              try go_wp2
              go_roundg k2
              case measure => have := HJ1.out; have := HK2.out; omega
              case rel => exact ⟨(wrap64 (x26_2 + 1)), (by first | rfl | (simp; done) | (simp [*]; done)), H', ⟨by have := HJ1.out; have := HK2.out; omega⟩, ⟨bk_ BK244⟩, ⟨bf_ HB⟩⟩
            ·rw [if_neg c29] at H
             exact absurd H (by simp)
           ·rw [if_neg c28] at H
            exact absurd H (by simp)
          ·rw [if_neg c26] at H
           have c26b0 : decide (0 < x26_2) = false := decide_eq_false c26
           clear c26
           have H' := Aside0.mk H
           clear H
           have p247 : 0 ≤ (x26_2 : Int) := od_
           have q247 : x26_2 < (l0_4.length : Int) := od_
           obtain ⟨ad247, e247, hx247_0, hx247_1, hx247_2, hx247_3, hx247_4, hx247_5⟩ := at_T46 HR0_4.out x26_2 p247 q247
           cases e247
           replace hx247_0 := hb_ HB hx247_0
           replace hx247_1 := hb_ HB hx247_1
           replace hx247_2 := hb_ HB hx247_2
           replace hx247_3 := hb_ HB hx247_3
           replace hx247_4 := hb_ HB hx247_4
           replace hx247_5 := hb_ HB hx247_5
           replace p247 := eq_true p247
           replace q247 := eq_true q247
           try go_wp2_with (first | ((with_reducible refine gd_ 4 rfl ?_); (try (refine gate_guard (by rfl) ?_; dsimp only)); refine bv_ 4 #[.int .i64 0, .int .i64 0, .bool false, .int .i64 0, .int .i64 0, .int .i64 0] 46 ?_; intro gb248 hg w43 hbox hb; have BK248 := Aside0.mk (hbox); have GW248 := gw_ HB hg; have GE248 := gw_ HB hg; replace HB := Aside0.mk (below_step (bf_ HB) hb); have NB244_248 := nl_ BK244 hg; have NB248_244 := ng_ BK244 hg; replace BK244 := bb_ BK244 hb; clear hb hbox hg; have hnb44 := NB248_244.out; have hnc44 := NB244_248.out; obtain ⟨hcz45_0, hcz45_1, hcz45_2, hcz45_3, hcz45_4, hcz45_5, hfz45_0, hfz45_1, hfz45_2, hfz45_3, hfz45_4, hfz45_5⟩ := bz6_ BK248))
           generalize hW_ : ((((((w43.setCell ⟨gb248, 0, none⟩ (.int .i64 ((rd_T46 l0_4 x26_2).f0))).setCell ⟨gb248, 1, none⟩ (.int .i64 ((rd_T46 l0_4 x26_2).f1))).setCell ⟨gb248, 2, none⟩ (.bool ((rd_T46 l0_4 x26_2).f2))).setCell ⟨gb248, 3, none⟩ (.int .i64 ((rd_T46 l0_4 x26_2).f3.f0))).setCell ⟨gb248, 4, none⟩ (.int .i64 ((rd_T46 l0_4 x26_2).f3.f1))).setCell ⟨gb248, 5, none⟩ (.int .i64 ((rd_T46 l0_4 x26_2).f3.f2))) = w46
           replace BK244 := fc6_ hW_ BK244 NB244_248
           replace BK248 : Aside0 (w46.heap[gb248]? = some (.cells #[.int .i64 ((rd_T46 l0_4 x26_2).f0), .int .i64 ((rd_T46 l0_4 x26_2).f1), .bool ((rd_T46 l0_4 x26_2).f2), .int .i64 ((rd_T46 l0_4 x26_2).f3.f0), .int .i64 ((rd_T46 l0_4 x26_2).f3.f1), .int .i64 ((rd_T46 l0_4 x26_2).f3.f2)] 46 (0, 0))) := pc6_ hW_ BK248
           replace HB : Aside0 (Below w.heap.size w w46) := ⟨by cases hW_; exact bf_ HB⟩
           clear hW_; replace BK244 := Aside0.mk (blk_drew BK244.out); replace BK248 := Aside0.mk (blk_drew BK248.out); replace HB := Aside0.mk (below_drew1 HB.out)
           refine start_ (n := 20) (S := fun w' => cw_ w' gb244 0 (.int .i64 a0_0) ∧ cw_ w' gb244 1 (.int .i64 a0_1) ∧ cw_ w' gb244 2 (.int .i64 a0_2) ∧ cw_ w' gb244 3 (.int .i64 a0_3) ∧ cw_ w' gb244 4 (.slice (some ad247) l0_4.length c0_4) ∧ cw_ w' gb248 0 (.int .i64 ((rd_T46 l0_4 x26_2).f0)) ∧ cw_ w' gb248 1 (.int .i64 ((rd_T46 l0_4 x26_2).f1)) ∧ cw_ w' gb248 2 (.bool ((rd_T46 l0_4 x26_2).f2)) ∧ cw_ w' gb248 3 (.int .i64 ((rd_T46 l0_4 x26_2).f3.f0)) ∧ cw_ w' gb248 4 (.int .i64 ((rd_T46 l0_4 x26_2).f3.f1)) ∧ cw_ w' gb248 5 (.int .i64 ((rd_T46 l0_4 x26_2).f3.f2))) (ds := []) (bs 20 0) (by kernel_rfl) rfl rfl ⟨bt_ BK244 0, bt_ BK244 1, bt_ BK244 2, bt_ BK244 3, bt_ BK244 4, bt_ BK248 0, bt_ BK248 1, bt_ BK248 2, bt_ BK248 3, bt_ BK248 4, bt_ BK248 5⟩ (fun hHeld => ?_); refine with_tabW impl_FairOk.tab6 impl_FairOk.bits6 (fun HT_ HW_ => ?_)
           generalize w46.drew = w47 at BK244 BK248 HB hHeld ⊢
           iterate 2 (refine tkn_ HT_ HW_ hHeld ?_)
           refine on_ 2 (some 33) (bs 20 3) HT_ (fun K hK => ?_)
           refine gs_ Try.func53 #[.agg #[.int .i64 a0_0, .int .i64 a0_1, .int .i64 a0_2, .int .i64 a0_3, .slice (some ad247) l0_4.length c0_4], .agg #[.int .i64 ((rd_T46 l0_4 x26_2).f0), .int .i64 ((rd_T46 l0_4 x26_2).f1), .bool ((rd_T46 l0_4 x26_2).f2), .int .i64 ((rd_T46 l0_4 x26_2).f3.f0), .int .i64 ((rd_T46 l0_4 x26_2).f3.f1), .int .i64 ((rd_T46 l0_4 x26_2).f3.f2)]] ?_
           with_reducible refine (impl_Fair_kidOk.calls a0_0 a0_1 a0_2 a0_3 _ _ l0_4 ((rd_T46 l0_4 x26_2).f0) ((rd_T46 l0_4 x26_2).f1) ((rd_T46 l0_4 x26_2).f2) ((rd_T46 l0_4 x26_2).f3.f0) ((rd_T46 l0_4 x26_2).f3.f1) ((rd_T46 l0_4 x26_2).f3.f2) true _ ?side1 ?side2 A24.out).mono ?_
           (case side1 => repeat (first | exact (Kd.C_below HR0_4.out HB.out) | (with_reducible refine Kd.C_alloc ?_ _) | (with_reducible refine Kd.C_drewN ?_ _) | (with_reducible refine Kd.C_drew ?_)))
           (case side2 => exact HC0_4.out)
           rintro e w48 ⟨rfl, hb⟩
           refine ⟨_, rfl, ?_⟩
           replace BK244 := bb_ BK244 hb; replace BK248 := bb_ BK248 hb; replace HB := Aside0.mk (below_step (bf_ HB) hb); (try clear hb); (try clear hb2); (try clear hk); (try clear hi)
           refine hK.out _ _ ⟨bt_ BK244 0, bt_ BK244 1, bt_ BK244 2, bt_ BK244 3, bt_ BK244 4, bt_ BK248 0, bt_ BK248 1, bt_ BK248 2, bt_ BK248 3, bt_ BK248 4, bt_ BK248 5⟩ (fun hHeld => ?_)
           clear hK K
           refine norm_ (a' := ?_) ?_ ?_
           rotate_left
           ·show Act.put _ (some 33) _ = _
            simp only [Act.put, ls0_, ls1_, ls2_, i64_w, i32_w]
            rfl
           iterate 5 (refine psn_ HT_ ?_)
           iterate 10 (refine pun_ HT_ ?_)
           iterate 2 (refine psn_ HT_ ?_)
           refine done_ (done_of HT_.out (by kernel_rfl)) ?_
           try go_wp2
           go_roundg k2
           case measure => have := HJ1.out; have := HK2.out; omega
           case rel => exact ⟨(wrap64 (x26_2 + 1)), (by first | rfl | (simp; done) | (simp [*]; done)), H', ⟨by have := HJ1.out; have := HK2.out; omega⟩, ⟨bk_ BK244⟩, ⟨bf_ HB⟩⟩
         ·replace c25 := Bool.eq_false_iff.mpr c25
          subst c25
          rw [if_neg (show ¬ (false = true) by decide)] at H
          obtain rfl := Option.some.inj H
          have p247 : 0 ≤ (x26_2 : Int) := od_
          have q247 : x26_2 < (l0_4.length : Int) := od_
          obtain ⟨ad247, e247, hx247_0, hx247_1, hx247_2, hx247_3, hx247_4, hx247_5⟩ := at_T46 HR0_4.out x26_2 p247 q247
          cases e247
          replace hx247_0 := hb_ HB hx247_0
          replace hx247_1 := hb_ HB hx247_1
          replace hx247_2 := hb_ HB hx247_2
          replace hx247_3 := hb_ HB hx247_3
          replace hx247_4 := hb_ HB hx247_4
          replace hx247_5 := hb_ HB hx247_5
          replace p247 := eq_true p247
          replace q247 := eq_true q247
          try go_wp2_with (first | ((with_reducible refine gd_ 4 rfl ?_); (try (refine gate_guard (by rfl) ?_; dsimp only)); refine bv_ 4 #[.int .i64 0, .int .i64 0, .bool false, .int .i64 0, .int .i64 0, .int .i64 0] 46 ?_; intro gb248 hg w49 hbox hb; have BK248 := Aside0.mk (hbox); have GW248 := gw_ HB hg; have GE248 := gw_ HB hg; replace HB := Aside0.mk (below_step (bf_ HB) hb); have NB244_248 := nl_ BK244 hg; have NB248_244 := ng_ BK244 hg; replace BK244 := bb_ BK244 hb; clear hb hbox hg; have hnb50 := NB248_244.out; have hnc50 := NB244_248.out; obtain ⟨hcz51_0, hcz51_1, hcz51_2, hcz51_3, hcz51_4, hcz51_5, hfz51_0, hfz51_1, hfz51_2, hfz51_3, hfz51_4, hfz51_5⟩ := bz6_ BK248))
          generalize hW_ : ((((((w49.setCell ⟨gb248, 0, none⟩ (.int .i64 ((rd_T46 l0_4 x26_2).f0))).setCell ⟨gb248, 1, none⟩ (.int .i64 ((rd_T46 l0_4 x26_2).f1))).setCell ⟨gb248, 2, none⟩ (.bool ((rd_T46 l0_4 x26_2).f2))).setCell ⟨gb248, 3, none⟩ (.int .i64 ((rd_T46 l0_4 x26_2).f3.f0))).setCell ⟨gb248, 4, none⟩ (.int .i64 ((rd_T46 l0_4 x26_2).f3.f1))).setCell ⟨gb248, 5, none⟩ (.int .i64 ((rd_T46 l0_4 x26_2).f3.f2))) = w52
          replace BK244 := fc6_ hW_ BK244 NB244_248
          replace BK248 : Aside0 (w52.heap[gb248]? = some (.cells #[.int .i64 ((rd_T46 l0_4 x26_2).f0), .int .i64 ((rd_T46 l0_4 x26_2).f1), .bool ((rd_T46 l0_4 x26_2).f2), .int .i64 ((rd_T46 l0_4 x26_2).f3.f0), .int .i64 ((rd_T46 l0_4 x26_2).f3.f1), .int .i64 ((rd_T46 l0_4 x26_2).f3.f2)] 46 (0, 0))) := pc6_ hW_ BK248
          replace HB : Aside0 (Below w.heap.size w w52) := ⟨by cases hW_; exact bf_ HB⟩
          clear hW_; replace BK244 := Aside0.mk (blk_drew BK244.out); replace BK248 := Aside0.mk (blk_drew BK248.out); replace HB := Aside0.mk (below_drew1 HB.out)
          refine start_ (n := 20) (S := fun w' => cw_ w' gb244 0 (.int .i64 a0_0) ∧ cw_ w' gb244 1 (.int .i64 a0_1) ∧ cw_ w' gb244 2 (.int .i64 a0_2) ∧ cw_ w' gb244 3 (.int .i64 a0_3) ∧ cw_ w' gb244 4 (.slice (some ad247) l0_4.length c0_4) ∧ cw_ w' gb248 0 (.int .i64 ((rd_T46 l0_4 x26_2).f0)) ∧ cw_ w' gb248 1 (.int .i64 ((rd_T46 l0_4 x26_2).f1)) ∧ cw_ w' gb248 2 (.bool ((rd_T46 l0_4 x26_2).f2)) ∧ cw_ w' gb248 3 (.int .i64 ((rd_T46 l0_4 x26_2).f3.f0)) ∧ cw_ w' gb248 4 (.int .i64 ((rd_T46 l0_4 x26_2).f3.f1)) ∧ cw_ w' gb248 5 (.int .i64 ((rd_T46 l0_4 x26_2).f3.f2))) (ds := []) (bs 20 0) (by kernel_rfl) rfl rfl ⟨bt_ BK244 0, bt_ BK244 1, bt_ BK244 2, bt_ BK244 3, bt_ BK244 4, bt_ BK248 0, bt_ BK248 1, bt_ BK248 2, bt_ BK248 3, bt_ BK248 4, bt_ BK248 5⟩ (fun hHeld => ?_); refine with_tabW impl_FairOk.tab6 impl_FairOk.bits6 (fun HT_ HW_ => ?_)
          generalize w52.drew = w53 at BK244 BK248 HB hHeld ⊢
          iterate 2 (refine tkn_ HT_ HW_ hHeld ?_)
          refine on_ 2 (some 33) (bs 20 3) HT_ (fun K hK => ?_)
          refine gs_ Try.func53 #[.agg #[.int .i64 a0_0, .int .i64 a0_1, .int .i64 a0_2, .int .i64 a0_3, .slice (some ad247) l0_4.length c0_4], .agg #[.int .i64 ((rd_T46 l0_4 x26_2).f0), .int .i64 ((rd_T46 l0_4 x26_2).f1), .bool ((rd_T46 l0_4 x26_2).f2), .int .i64 ((rd_T46 l0_4 x26_2).f3.f0), .int .i64 ((rd_T46 l0_4 x26_2).f3.f1), .int .i64 ((rd_T46 l0_4 x26_2).f3.f2)]] ?_
          with_reducible refine (impl_Fair_kidOk.calls a0_0 a0_1 a0_2 a0_3 _ _ l0_4 ((rd_T46 l0_4 x26_2).f0) ((rd_T46 l0_4 x26_2).f1) ((rd_T46 l0_4 x26_2).f2) ((rd_T46 l0_4 x26_2).f3.f0) ((rd_T46 l0_4 x26_2).f3.f1) ((rd_T46 l0_4 x26_2).f3.f2) false _ ?side1 ?side2 A24.out).mono ?_
          (case side1 => repeat (first | exact (Kd.C_below HR0_4.out HB.out) | (with_reducible refine Kd.C_alloc ?_ _) | (with_reducible refine Kd.C_drewN ?_ _) | (with_reducible refine Kd.C_drew ?_)))
          (case side2 => exact HC0_4.out)
          rintro e w54 ⟨rfl, hb⟩
          refine ⟨_, rfl, ?_⟩
          replace BK244 := bb_ BK244 hb; replace BK248 := bb_ BK248 hb; replace HB := Aside0.mk (below_step (bf_ HB) hb); (try clear hb); (try clear hb2); (try clear hk); (try clear hi)
          refine hK.out _ _ ⟨bt_ BK244 0, bt_ BK244 1, bt_ BK244 2, bt_ BK244 3, bt_ BK244 4, bt_ BK248 0, bt_ BK248 1, bt_ BK248 2, bt_ BK248 3, bt_ BK248 4, bt_ BK248 5⟩ (fun hHeld => ?_)
          clear hK K
          refine norm_ (a' := ?_) ?_ ?_
          rotate_left
          ·show Act.put _ (some 33) _ = _
           simp only [Act.put, ls0_, ls1_, ls2_, i64_w, i32_w]
           rfl
          iterate 2 (refine psn_ HT_ ?_)
          iterate 14 (refine pun_ HT_ ?_)
          refine psn_ HT_ ?_
          refine done_ (done_of HT_.out (by kernel_rfl)) ?_
          try go_wp2
          go_ret
          exact ⟨by first | rfl | (simp [errW_none, errW_some] <;> rfl) | (simp [*, errW_none, errW_some] <;> rfl), bf_ HB⟩
        ·rw [if_neg c23] at H
         exact absurd H (by simp)
       ·rw [if_neg c22] at H
        exact absurd H (by simp)
      ·rw [if_neg c21] at H
       have c21b0 : decide (x26_2 < (l0_4.length : Int)) = false := decide_eq_false c21
       clear c21
       obtain rfl := Option.some.inj H
       go_wp2
       go_ret
       exact ⟨by first | rfl | (simp [errW_none, errW_some] <;> rfl) | (simp [*, errW_none, errW_some] <;> rfl), bf_ HB⟩

-- NOT PRINTED: function 67 (impl_Kid_67)

/-! ### impl_Fair_at_1: function 68 -/
def impl_Fair_at_1.f (a0_0 : Int) (a0_1 : Int) (a0_2 : Bool) (a0_3 : Int) (a0_4 : Int) (a0_5 : Int) (a1 : Int) : Option (Bool) := some (a0_0 == a1)
set_option maxHeartbeats 8000000 in
set_option maxRecDepth 100000 in
theorem impl_Fair_at_1.calls (a0_0 : Int) (a0_1 : Int) (a0_2 : Bool) (a0_3 : Int) (a0_4 : Int) (a0_5 : Int) (a1 : Int) (r : Bool) (w : World) (gb251 : Nat) (hb_gb251 : w.heap[gb251]? = some (.cells #[.int .i64 a1] 3 (0, 0))) (h : impl_Fair_at_1.f a0_0 a0_1 a0_2 a0_3 a0_4 a0_5 a1 = some r) :
  Calls Try.prog 68 #[.agg #[.int .i64 a0_0, .int .i64 a0_1, .bool a0_2, .int .i64 a0_3, .int .i64 a0_4, .int .i64 a0_5], .pointer (some ⟨gb251, 0, none⟩)] w fun e w' => e = .returned (.bool r) ∧ Below w.heap.size w w' := by
 have hu46 := Try.underlying46; have HB := Aside0.mk (Below.refl w.heap.size w)
 have H := h
 clear h
 unfold impl_Fair_at_1.f at H
 obtain rfl := Option.some.inj H
 have BK251 := Aside0.mk hb_gb251
 go_enter Try.func68, Try.ntmps68
 go_wp2_with (first | ((with_reducible refine gd_ 2 rfl ?_); refine bv_ 2 #[.int .i64 a0_0, .int .i64 a0_1, .bool a0_2, .int .i64 a0_3, .int .i64 a0_4, .int .i64 a0_5] 46 ?_; intro gb252 hg w4 hbox hb; have BK252 := Aside0.mk (hbox); have GW252 := gw_ HB hg; have GE252 := gw_ HB hg; replace HB := Aside0.mk (below_step (bf_ HB) hb); have NB251_252 := nl_ BK251 hg; have NB252_251 := ng_ BK251 hg; replace BK251 := bb_ BK251 hb; clear hb hbox hg; have hnb5 := NB252_251.out; have hnc5 := NB251_252.out; obtain ⟨hcz6_0, hcz6_1, hcz6_2, hcz6_3, hcz6_4, hcz6_5, hfz6_0, hfz6_1, hfz6_2, hfz6_3, hfz6_4, hfz6_5⟩ := bz6_ BK252; obtain ⟨hcz7_0, hfz7_0⟩ := bz1_ BK251))
 go_ret
 exact ⟨by first | rfl | (simp [errW_none, errW_some] <;> rfl) | (simp [*, errW_none, errW_some] <;> rfl), bf_ HB⟩

/-! ### impl_Fair_at: function 36 (wip/hand) -/
theorem impl_Fair_at.pred (id : Int) (B : Nat) (w W : World) (hB : B < w.heap.size) (hc : w.cell? ⟨B, 0, none⟩ = some (.int .i64 id)) (hb : Below w.heap.size w W) (x : S46) :
    Calls Try.prog 68 #[.agg #[.int .i64 x.f0, .int .i64 x.f1, .bool x.f2, .int .i64 x.f3.f0, .int .i64 x.f3.f1, .int .i64 x.f3.f2], .pointer (some ⟨B, 0, none⟩)] W fun e w' => e = .returned (.bool (x.f0 == id)) ∧ Below w.heap.size w w' := by
  have hc' : W.cell? ⟨B, 0, none⟩ = some (.int .i64 id) := (hb.cell (p := ⟨B, 0, none⟩) hB).trans hc
  have hBW : B < W.heap.size := Nat.lt_of_lt_of_le hB hb.size
  have hne : B ≠ W.heap.size := by omega
  go_enter Try.func68, Try.ntmps68
  go_wp2
  all_goals (go_ret; exact ⟨by simp_all, hb.alloc hb.size _⟩)
theorem impl_Fair_at.idx_at {l0 : List S46} {i : Int} (h0 : 0 ≤ i) (h1 : i < (l0.length : Int)) : l0[i.toNat]? = some (rd_T46 l0 i) := by
  unfold rd_T46
  rw [List.getD_eq_getElem?_getD, List.getElem?_eq_getElem (by omega)]; rfl
set_option maxHeartbeats 2000000 in
theorem impl_Fair_at.idx_calls (p : S46 → Bool) (lb : Array Value) (A0 : Option Addr) (c0 : Nat) (l0 : List S46) (w : World) (hr0 : Kd.C k46 w A0 l0.length l0) (hc0 : l0.length ≤ c0) (hbig : l0.length ≤ 9223372036854775806)
    (hp : ∀ (W : World) (x : S46), Below w.heap.size w W → Calls Try.prog 68 (#[.agg #[.int .i64 x.f0, .int .i64 x.f1, .bool x.f2, .int .i64 x.f3.f0, .int .i64 x.f3.f1, .int .i64 x.f3.f2]] ++ lb) W fun e w' => e = .returned (.bool (p x)) ∧ Below w.heap.size w w') :
    Calls Try.prog 67 #[.slice A0 l0.length c0, .func (.func 68) #[] lb] w fun e w' => e = .returned (.int .i64 (idxP p l0)) ∧ Below w.heap.size w w' := by
  have hu46 := Try.underlying46
  have HR0 := Aside0.mk hr0
  have HC0 := Aside0.mk hc0
  have HN := Aside0.mk hbig
  have HP := Aside0.mk hp
  clear hr0 hc0 hbig hp
  go_enter Try.func67, Try.ntmps67
  go_wp2
  go_loopg [5, 8] l0.length (fun gg _ s8 wr => ∃ i : Int, s8 = .int .i64 i ∧ Aside0 (0 ≤ i ∧ i ≤ (l0.length : Int) ∧ l0.length - i.toNat ≤ gg) ∧ Aside0 (Below w.heap.size w wr) ∧ Aside0 (∀ (j : Nat) y, (j : Int) < i → l0[j]? = some y → p y = false))
  case atStart => exact ⟨0, rfl, ⟨by omega, by omega, by omega⟩, ⟨Below.refl _ w⟩, ⟨fun j y hj => by omega⟩⟩
  case round =>
    obtain ⟨i, rfl, HI, HB, A⟩ := hrel
    by_cases c6 : i < (l0.length : Int)
    · have c6b0 : decide (i < (l0.length : Int)) = true := decide_eq_true c6
      have p115 : 0 ≤ i := HI.out.1
      obtain ⟨ad115, e115, hx115_0, hx115_1, hx115_2, hx115_3, hx115_4, hx115_5⟩ := at_T46 HR0.out i p115 c6
      have HX := Aside0.mk (impl_Fair_at.idx_at p115 c6)
      have q115 := c6
      clear c6
      cases e115
      replace hx115_0 := hb_ HB hx115_0
      replace hx115_1 := hb_ HB hx115_1
      replace hx115_2 := hb_ HB hx115_2
      replace hx115_3 := hb_ HB hx115_3
      replace hx115_4 := hb_ HB hx115_4
      replace hx115_5 := hb_ HB hx115_5
      have HQ := Aside0.mk q115
      replace p115 := eq_true p115
      replace q115 := eq_true q115
      have hcall := HP.out wr (rd_T46 l0 i) HB.out
      generalize rd_T46 l0 i = x at *
      cases hq : p x with
      | true =>
        rw [hq] at hcall
        have HQ1 := Aside0.mk hq
        clear hq
        go_wp2_with (go_at_call 68; refine hcall.mono ?_; rintro e w' ⟨rfl, hb'⟩)
        go_ret
        refine ⟨?_, hb'⟩
        rw [idxP_hit l0 i.toNat x HX.out HQ1.out (fun j y hj => A.out j y (by omega)), Int.toNat_of_nonneg HI.out.1]
        rfl
      | false =>
        rw [hq] at hcall
        have HQ1 := Aside0.mk hq
        clear hq
        go_wp2_with (go_at_call 68; refine hcall.mono ?_; rintro e w' ⟨rfl, hb'⟩)
        go_roundg (l0.length - (i.toNat + 1))
        case measure => have := HI.out; have := HQ.out; omega
        case rel =>
          have h1 := HI.out
          have h2 := HQ.out
          have h3 := HN.out
          refine ⟨i + 1, by rw [show wrap64 (i + 1) = i + 1 by unfold wrap64; omega], ⟨by omega, by omega, by omega⟩, ⟨hb'⟩, ⟨fun j y hj hy => ?_⟩⟩
          by_cases e : j = i.toNat
          · subst e
            rw [HX.out] at hy
            cases hy
            exact HQ1.out
          · exact A.out j y (by omega) hy
    · have c6b0 : decide (i < (l0.length : Int)) = false := decide_eq_false c6
      have HQ := Aside0.mk c6
      clear c6
      go_wp2
      go_ret
      refine ⟨?_, HB.out⟩
      rw [idxP_miss l0 (fun j y hy => by
        have := HQ.out
        by_cases hj : j < l0.length
        · exact A.out j y (by omega) hy
        · rw [List.getElem?_eq_none (by omega)] at hy; cases hy)]
      rfl
def impl_Fair_at.f (a0_0 : Int) (a0_1 : Int) (a0_2 : Int) (a0_3 : Int) (l0_4 : List (S46)) (a1 : Int) : Option (Int) := if l0_4.length ≤ 9223372036854775806 then some (idxP (fun x => x.f0 == a1) l0_4) else none
set_option maxHeartbeats 8000000 in
set_option maxRecDepth 100000 in
theorem impl_Fair_at.calls (a0_0 : Int) (a0_1 : Int) (a0_2 : Int) (a0_3 : Int) (A0_4 : Option Addr) (c0_4 : Nat) (l0_4 : List (S46)) (a1 : Int) (r : Int) (w : World) (hr0_4 : Kd.C k46 w A0_4 l0_4.length l0_4) (hc0_4 : l0_4.length ≤ c0_4) (h : impl_Fair_at.f a0_0 a0_1 a0_2 a0_3 l0_4 a1 = some r) :
  Calls Try.prog 36 #[.agg #[.int .i64 a0_0, .int .i64 a0_1, .int .i64 a0_2, .int .i64 a0_3, .slice A0_4 l0_4.length c0_4], .int .i64 a1] w fun e w' => e = .returned (.int .i64 r) ∧ Below w.heap.size w w' := by
  have hu31 := Try.underlying31
  unfold impl_Fair_at.f at h
  split at h
  case isFalse => cases h
  rename_i hbig
  obtain rfl := Option.some.inj h
  have HC := fun (W : World) (B : Nat) (hw : Below w.heap.size w W) (hB : B < W.heap.size) (hc : W.cell? ⟨B, 0, none⟩ = some (.int .i64 a1)) =>
    (impl_Fair_at.idx_calls (fun x => x.f0 == a1) #[.pointer (some ⟨B, 0, none⟩)] A0_4 c0_4 l0_4 W (Kd.C_below hr0_4 hw) hc0_4 hbig (fun W' x hb => impl_Fair_at.pred a1 B W W' hB hc hb x)).mono (fun e w' (hh : _ ∧ _) => (⟨hh.1, hw.trans (hh.2.mono hw.size)⟩ : _ ∧ Below w.heap.size w w'))
  have HC' := Aside0.mk HC
  clear HC hr0_4 hc0_4 hbig h
  have HB := Aside0.mk (Below.refl w.heap.size w)
  go_enter Try.func36, Try.ntmps36
  go_wp2_with (go_at_call 67; refine (HC'.out _ _ ?hbe ?hlt ?hce).mono ?_; (case hbe => repeat (first | (with_reducible first | exact HB.out | apply below_alloc | apply pw_below_drewN | apply below_drew1) | exact HB.out)); (case hlt => simp); (case hce => simp); rintro e w' ⟨rfl, hb'⟩)
  go_ret
  exact ⟨rfl, hb'⟩

/-! ### impl_Kid_69: function 69 -/
def impl_Kid_69.f (l0 : List (S46)) : Option ((List (S46))) := (some (([] : List (S46)) : List (S46))).bind fun y253 => (if y253.length + l0.length < 2932031007402 then (some (y253 ++ l0)) else (none))
set_option maxHeartbeats 8000000 in
set_option maxRecDepth 100000 in
theorem impl_Kid_69.calls_some (A0 : Addr) (c0 : Nat) (l0 : List (S46)) (r : List (S46)) (w : World) (hr0 : Kd.C k46 w (some A0) l0.length l0) (hc0 : l0.length ≤ c0) (h : impl_Kid_69.f l0 = some r) :
  Calls Try.prog 69 #[.slice (some A0) l0.length c0] w fun e w' => ∃ v0_ : Value, e = .returned (v0_) ∧ Kd.R k46 46 w' w.heap.size (fun _ => True) v0_ r ∧ Below w.heap.size w w' := by
 have hnil0_ := fun (W : World) (n c : Nat) => Lib.run_eql_slice_nil (P := Try.prog) W 29 46 (some A0) n c 0 0 Try.underlying29
 have HR0 := Aside0.mk hr0
 have HC0 := Aside0.mk hc0
 clear hr0 hc0; have HB := Aside0.mk (Below.refl w.heap.size w)
 have H : ((some (([] : List (S46)) : List (S46))).bind fun y253 => (if y253.length + l0.length < 2932031007402 then (some (y253 ++ l0)) else (none))) = some r := h
 clear h
 obtain ⟨y253, hy253⟩ : ∃ y_ : List (S46), y_ = (([] : List (S46))) := ⟨_, rfl⟩
 replace H : (if y253.length + l0.length < 2932031007402 then (some (y253 ++ l0)) else (none)) = some r := by first | (rw [hy253]; with_reducible exact H) | (have H2_ := (Option.bind_some _ _).symm.trans H; rw [hy253]; with_reducible exact H2_) | (have H2_ := (Option.bind_some _ _).symm.trans H; with_reducible exact H2_) | with_reducible exact H | (rw [hy253]; exact H) | exact H
 have Ny253 := Aside0.mk hy253
 clear hy253
 by_cases c2 : y253.length + l0.length < 2932031007402
 ·rw [if_pos c2] at H
  have LMc2 := Aside0.mk c2
  clear c2
  obtain ⟨y256, hy256⟩ : ∃ y_ : List (S46), y_ = (y253 ++ l0) := ⟨_, rfl⟩
  replace H : (some y256) = some r := by first | (rw [hy256]; with_reducible exact H) | (have H2_ := (Option.bind_some _ _).symm.trans H; rw [hy256]; with_reducible exact H2_) | (have H2_ := (Option.bind_some _ _).symm.trans H; with_reducible exact H2_) | with_reducible exact H | (rw [hy256]; exact H) | exact H
  have Ny256 := Aside0.mk hy256
  clear hy256
  obtain rfl := Option.some.inj H
  go_enter Try.func69, Try.ntmps69
  go_wp2_with (first | ((with_reducible refine gd_ 5 rfl ?_); refine Kd.R_lit k46 _ 46 ?hg (N := 5) ?hd (xs := ([] : List (S46))) (inner := []) (ok := fun _ => True) (okp := fun _ => True) ?hr ?hp (fun _ hk => by first | exact hk | grind) trivial (Below.refl _ _) (Nat.le_refl _) (by simp) ?_; (case hd => rfl); (case hg => rfl); (case hr => first | (go_simp; done) | (go_simp; rfl)); (case hp => exact (Reps.none _ _)); intro v254 w3 ho4 hb hg_ hnew_; clear hg_ hnew_; (first | rw [← Ny253.out] at ho4 | (simp only [Int.reduceToNat] at ho4; rw [← Ny253.out] at ho4)); have HO255 := Aside0.mk (Kd.R_lower ho4 (below_size (be_ HB))); replace HB := Aside0.mk (below_step (be_ HB) hb); clear hb ho4) | ((with_reducible refine gate_builtin (b := .append) (xs := #[.tmp 5, .tmp 6]) rfl ?_); at_builtin; refine Kd.R_append_rows k46 (w0 := w) w.heap.size rfl (.tmp 5) (.tmp 6) 29 46 (.agg #[(.int .i64 0), (.int .i64 0), (.bool false), (.int .i64 0), (.int .i64 0), (.int .i64 0)]) 48 rfl Try.underlying29 info46 rfl (by decide) (by omega) v254 y253 l0 _ _ _ (fun _ => True) (fun _ => False) rfl rfl ?aO ?aR (fun _ _ h => h) (fun _ h => h.elim) ?aF ?aB ?aS ?aL ?_; (case aR => repeat (first | exact (Kd.C_below HR0.out HB.out) | (with_reducible refine Kd.C_alloc ?_ _) | (with_reducible refine Kd.C_drewN ?_ _) | (with_reducible refine Kd.C_drew ?_))); (case aB => exact (be_ HB)); (case aF => exact (fun _ _ => trivial)); (case aO => exact (kr_ HO255)); (case aS => exact (below_size (be_ HB))); (case aL => have := LMc2.out; omega); intro v257 w5 ho hb hg hat; rw [← Ny256.out] at ho; replace HB := Aside0.mk (hb); have HO258 := Aside0.mk (ho); clear HO255 ho hb hg hat))
  go_ret
  exact ⟨_, by first | rfl | (simp [errW_none, errW_some] <;> rfl) | (simp [*, errW_none, errW_some] <;> rfl), by (with_reducible repeat (first | apply Kd.R_alloc | apply Kd.R_drewN | apply Kd.R_drew)); exact HO258.out, be_ HB⟩
 ·rw [if_neg c2] at H
  exact absurd H (by simp)
set_option maxHeartbeats 8000000 in
set_option maxRecDepth 100000 in
theorem impl_Kid_69.calls (A0 : Option Addr) (c0 : Nat) (l0 : List (S46)) (r : List (S46)) (w : World) (hr0 : Kd.C k46 w A0 l0.length l0) (hc0 : l0.length ≤ c0) (h : impl_Kid_69.f l0 = some r) :
  Calls Try.prog 69 #[.slice A0 l0.length c0] w fun e w' => ∃ v0_ : Value, e = .returned (v0_) ∧ Kd.R k46 46 w' w.heap.size (fun _ => True) v0_ r ∧ Below w.heap.size w w' := by
  cases A0 with
  | some a_ => exact impl_Kid_69.calls_some a_ c0 l0 r w hr0 hc0 h
  | none =>
    obtain rfl : l0 = [] := by
      rcases l0 with _ | ⟨x_, t_⟩
      · rfl
      · obtain ⟨ad_, h0_, _⟩ := hr0.2.2 (by simp)
        cases h0_
    obtain rfl : r = [] := by simpa [impl_Kid_69.f] using h.symm
    have hnil0_ := fun (W : World) (n c : Nat) => Lib.run_eql_slice_nil (P := Try.prog) W 29 46 none n c 0 0 Try.underlying29
    clear hr0 hc0 h
    go_enter Try.func69, Try.ntmps69
    go_wp2
    go_ret
    exact ⟨_, rfl, Kd.R_nil _ _ _ _ _, Below.refl _ _⟩

/-! ### impl_copyFair: function 38 -/
def impl_copyFair.f (a0_0 : Int) (a0_1 : Int) (a0_2 : Int) (a0_3 : Int) (l0_4 : List (S46)) : Option (Int × Int × Int × Int × (List (S46))) := (impl_Kid_69.f l0_4).bind fun t261 => (some (a0_0, a0_1, a0_2, a0_3, t261))
def impl_copyFair.T1 : Bool × List (List Nat × List Nat) := (true, [([], []), ([0], [0]), ([], []), ([2], [2]), ([], []), ([4], [4]), ([5], [5]), ([1, 3, 6], [1, 3, 6]), ([7, 6, 0, 1, 2, 3, 4, 5, 6, 7], [7])])
def impl_copyFair.B1 : List Nat := [0, 1, 0, 4, 0, 16, 48, 127, 255]
theorem impl_copyFair.tab1 : rtab .any (opsOf Try.f38 1) = impl_copyFair.T1 := by kernel_rfl
theorem impl_copyFair.bits1 : waitsOk impl_copyFair.T1.2 impl_copyFair.B1 = true := by kernel_rfl
set_option maxHeartbeats 8000000 in
set_option maxRecDepth 100000 in
theorem impl_copyFair.calls (a0_0 : Int) (a0_1 : Int) (a0_2 : Int) (a0_3 : Int) (A0_4 : Option Addr) (c0_4 : Nat) (l0_4 : List (S46)) (r1 : Int) (r2 : Int) (r3 : Int) (r4 : Int) (r5 : List (S46)) (w : World) (hr0_4 : Kd.C k46 w A0_4 l0_4.length l0_4) (hc0_4 : l0_4.length ≤ c0_4) (h : impl_copyFair.f a0_0 a0_1 a0_2 a0_3 l0_4 = some (r1, r2, r3, r4, r5)) :
  Calls Try.prog 38 #[.agg #[.int .i64 a0_0, .int .i64 a0_1, .int .i64 a0_2, .int .i64 a0_3, .slice A0_4 l0_4.length c0_4]] w fun e w' => ∃ v4_ : Value, e = .returned (.agg #[.int .i64 r1, .int .i64 r2, .int .i64 r3, .int .i64 r4, v4_]) ∧ Kd.R k46 46 w' w.heap.size (fun _ => True) v4_ r5 ∧ Below w.heap.size w w' := by
 have hu31 := Try.underlying31; have hu28 := Try.underlying28
 have HR0_4 := Aside0.mk hr0_4
 have HC0_4 := Aside0.mk hc0_4
 clear hr0_4 hc0_4; have HB := Aside0.mk (Below.refl w.heap.size w)
 have H := h
 clear h
 unfold impl_copyFair.f at H
 replace H := Option.bind_eq_some_iff.mp H
 obtain ⟨t261, A20, H⟩ := H
 have A2 := Aside0.mk A20
 clear A20
 simp only [Option.some.injEq, Prod.mk.injEq] at H
 obtain ⟨rfl, rfl, rfl, rfl, rfl⟩ := H
 go_enter Try.func38, Try.ntmps38
 try go_wp2_with (first | ((with_reducible refine gd_ 1 rfl ?_); refine bv_ 1 #[.int .i64 a0_0, .int .i64 a0_1, .int .i64 a0_2, .int .i64 a0_3, .slice A0_4 l0_4.length c0_4] 31 ?_; intro gb259 hg w3 hbox hb; have BK259 := Aside0.mk (hbox); have GW259 := gw_ HB hg; have GE259 := gw_ HB hg; replace HB := Aside0.mk (below_step (be_ HB) hb); clear hb hbox hg) | ((with_reducible refine gd_ 2 rfl ?_); refine bv_ 2 #[.int .i64 0, .int .i64 0, .int .i64 0, .int .i64 0, .slice none 0 0] 31 ?_; intro gb260 hg w4 hbox hb; have BK260 := Aside0.mk (hbox); have GW260 := gw_ HB hg; have GE260 := gw_ HB hg; replace HB := Aside0.mk (below_step (bf_ HB) hb); have NB259_260 := nl_ BK259 hg; have NB260_259 := ng_ BK259 hg; replace BK259 := bb_ BK259 hb; clear hb hbox hg))
 replace BK259 := Aside0.mk (blk_drew BK259.out); replace BK260 := Aside0.mk (blk_drew BK260.out); replace HB := Aside0.mk (below_drew1 HB.out)
 refine start_ (n := 9) (S := fun w' => cw_ w' gb259 0 (.int .i64 a0_0) ∧ cw_ w' gb259 1 (.int .i64 a0_1) ∧ cw_ w' gb259 2 (.int .i64 a0_2) ∧ cw_ w' gb259 3 (.int .i64 a0_3) ∧ cw_ w' gb259 4 (.slice A0_4 l0_4.length c0_4)) (ds := []) (bs 9 0) (by kernel_rfl) rfl rfl ⟨bt_ BK259 0, bt_ BK259 1, bt_ BK259 2, bt_ BK259 3, bt_ BK259 4⟩ (fun hHeld => ?_); refine with_tabW impl_copyFair.tab1 impl_copyFair.bits1 (fun HT_ HW_ => ?_)
 generalize w4.drew = w5 at BK259 BK260 HB hHeld ⊢
 refine psn_ HT_ ?_
 refine ps_ 2 5 (bm 9 5) HT_ ?_
 refine ps_ 4 7 (bm 9 21) HT_ ?_
 refine tk_ 1 4 (bm 9 23) HT_ HW_ hHeld ?_
 refine tk_ 3 6 (bs 9 5) HT_ HW_ hHeld ?_
 refine tkn_ HT_ HW_ hHeld ?_
 refine on_ 6 (some 9) (bs 9 7) HT_ (fun K hK => ?_)
 refine gs_ Try.func69 #[.slice A0_4 l0_4.length c0_4] ?_
 with_reducible refine (impl_Kid_69.calls _ _ l0_4 t261 _ ?side1 ?side2 A2.out).mono ?_
 (case side1 => repeat (first | exact (Kd.C_below HR0_4.out HB.out) | (with_reducible refine Kd.C_alloc ?_ _) | (with_reducible refine Kd.C_drewN ?_ _) | (with_reducible refine Kd.C_drew ?_)))
 (case side2 => exact HC0_4.out)
 rintro e w6 ⟨v262, rfl, ho0, hb⟩
 refine ⟨_, rfl, ?_⟩
 have HO263 := Aside0.mk (Kd.R_lower ho0 (below_size (bf_ HB))); replace BK259 := bb_ BK259 hb; replace BK260 := bb_ BK260 hb; replace HB := Aside0.mk (below_step (bf_ HB) hb); (try clear hb); (try clear hb2); (try clear hk); (try clear hi); (try clear ho0)
 obtain ⟨Ao7, co7, eo7⟩ := Kd.R_slice HO263.out
 (first | subst eo7 | (injection eo7 with f1_ f2_ f3_; have f4_ := f1_.symm; have f5_ := f3_.symm; clear f1_ f2_ f3_; subst f4_; subst f5_))
 refine hK.out _ _ ⟨bt_ BK259 0, bt_ BK259 1, bt_ BK259 2, bt_ BK259 3, bt_ BK259 4⟩ (fun hHeld => ?_)
 clear hK K
 refine norm_ (a' := ?_) ?_ ?_
 rotate_left
 ·show Act.put _ (some 9) _ = _
  simp only [Act.put, ls0_, ls1_, ls2_, i64_w, i32_w]
  rfl
 refine psn_ HT_ ?_
 refine on_ 8 none (bs 9 9) HT_ (fun K hK => ?_)
 have hs8 := bc_ BK260 0 (.int .i64 0) rfl; have hfs8 := blk_frozen BK260.out 0; have hns8_0 := NB259_260.out; have hms8_0 := NB260_259.out; have hs9 := bc_ BK260 1 (.int .i64 0) rfl; have hfs9 := blk_frozen BK260.out 1; have hns9_0 := NB259_260.out; have hms9_0 := NB260_259.out; have hs10 := bc_ BK260 2 (.int .i64 0) rfl; have hfs10 := blk_frozen BK260.out 2; have hns10_0 := NB259_260.out; have hms10_0 := NB260_259.out; have hs11 := bc_ BK260 3 (.int .i64 0) rfl; have hfs11 := blk_frozen BK260.out 3; have hns11_0 := NB259_260.out; have hms11_0 := NB260_259.out; have hs12 := bc_ BK260 4 (.slice none 0 0) rfl; have hfs12 := blk_frozen BK260.out 4; have hns12_0 := NB259_260.out; have hms12_0 := NB260_259.out
 refine skip_ (w1 := ?_) (by rfl) rfl ?_ ?_
 rotate_left
 ·go_simp
  rfl
 refine hK.out _ _ ⟨(cf5_ NB259_260.out hHeld.1), (cf5_ NB259_260.out hHeld.2.1), (cf5_ NB259_260.out hHeld.2.2.1), (cf5_ NB259_260.out hHeld.2.2.2.1), (cf5_ NB259_260.out hHeld.2.2.2.2)⟩ (fun hHeld => ?_)
 clear hK K
 refine done_ (done_of HT_.out (by kernel_rfl)) ?_
 try go_wp2
 refine bodyPost_ret (results_cell_row rfl _ _ gb260 31 #[.int .i64 a0_0, .int .i64 a0_1, .int .i64 a0_2, .int .i64 a0_3, .slice Ao7 t261.length co7] (0, 0) _ rfl (by (with_reducible repeat (first | refine blk_drewN ?_ _ | refine blk_drew ?_ | refine blk_alloc ?_ _)); refine blk_put (cs := #[.int .i64 a0_0, .int .i64 a0_1, .int .i64 a0_2, .int .i64 a0_3, .slice none 0 0]) ?_ 4 _ rfl; (with_reducible repeat (first | refine blk_drewN ?_ _ | refine blk_drew ?_ | refine blk_alloc ?_ _)); refine blk_put (cs := #[.int .i64 a0_0, .int .i64 a0_1, .int .i64 a0_2, .int .i64 0, .slice none 0 0]) ?_ 3 _ rfl; (with_reducible repeat (first | refine blk_drewN ?_ _ | refine blk_drew ?_ | refine blk_alloc ?_ _)); refine blk_put (cs := #[.int .i64 a0_0, .int .i64 a0_1, .int .i64 0, .int .i64 0, .slice none 0 0]) ?_ 2 _ rfl; (with_reducible repeat (first | refine blk_drewN ?_ _ | refine blk_drew ?_ | refine blk_alloc ?_ _)); refine blk_put (cs := #[.int .i64 a0_0, .int .i64 0, .int .i64 0, .int .i64 0, .slice none 0 0]) ?_ 1 _ rfl; (with_reducible repeat (first | refine blk_drewN ?_ _ | refine blk_drew ?_ | refine blk_alloc ?_ _)); refine blk_put (cs := #[.int .i64 0, .int .i64 0, .int .i64 0, .int .i64 0, .slice none 0 0]) ?_ 0 _ rfl; exact bk_ BK260) Try.underlying31 rfl (by kernel_rfl)) rfl ?_
 exact ⟨_, by first | rfl | (simp [errW_none, errW_some] <;> rfl) | (simp [*, errW_none, errW_some] <;> rfl), by (with_reducible repeat (first | apply Kd.R_alloc | apply Kd.R_drewN | apply Kd.R_drew)); exact Kd.R_mono (Kd.R_far (p := ⟨gb260, 4, none⟩) (Kd.R_far (p := ⟨gb260, 3, none⟩) (Kd.R_far (p := ⟨gb260, 2, none⟩) (Kd.R_far (p := ⟨gb260, 1, none⟩) (Kd.R_far (p := ⟨gb260, 0, none⟩) (Kd.R_types HO263.out BK260.out (by decide)) (fun _ hk => by first | exact hk.2 | grind) (.int .i64 a0_0)) (fun _ hk => by first | exact hk.2 | grind) (.int .i64 a0_1)) (fun _ hk => by first | exact hk.2 | grind) (.int .i64 a0_2)) (fun _ hk => by first | exact hk.2 | grind) (.int .i64 a0_3)) (fun _ hk => by first | exact hk.2 | grind) (.slice Ao7 t261.length co7)) (fun _ hk => by first | exact trivial | grind), bf_ HB⟩

-- NOT PRINTED: function 72 (impl_Kid_72)

end Go.Proofs.Ytppmbdfbhahngaa.PFnExactFairJoin
