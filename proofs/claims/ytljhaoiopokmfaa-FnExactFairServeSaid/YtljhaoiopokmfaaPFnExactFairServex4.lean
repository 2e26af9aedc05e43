-- printed by a program of this session (wip/printx) out of the translation; Lean checks it
import Derived.Test.YtljhaoiopokmfaaVFnExactFairServe
import Derived.Test.YtljhaoiopokmfaaPFnExactFairServex0
import Derived.Test.YtljhaoiopokmfaaPFnExactFairServex2
import Derived.Test.YtljhaoiopokmfaaPFnExactFairServex3
namespace Go.Proofs.Ytljhaoiopokmfaa.PFnExactFairServe
open Go.RowKit Go.Proofs.YtljhaoiopokmfaaW.PrintWords Go.Proofs.YtljhaoiopokmfaaW.PrintLast Go.Proofs.YtljhaoiopokmfaaW.PrintMore
attribute [local go_sem] max2_int min2_int max_two min_two max_three min_three max_four min_four   -- for this text's walks alone
set_option linter.unusedVariables false
set_option linter.unusedSimpArgs false

/-! ### impl_FairOk: function 18 -/
mutual
def impl_FairOk.j0 : Nat → Bool → Int → Int → Int → Int → List (S38) → Option (Bool)
  | 0, _, _, _, _, _, _ => none
  | k + 1, x22, x186000, x186001, x186002, x186003, x186004 => if x22 = true then (some false) else (impl_FairOk.l0 k x186004 (x186004.length : Int) 0 x186000 x186001 x186002 x186003 x186004)
def impl_FairOk.l0 : Nat → List (S38) → Int → Int → Int → Int → Int → Int → List (S38) → Option (Bool)
  | 0, _, _, _, _, _, _, _, _ => none
  | k + 1, x24, x25, x26, x186000, x186001, x186002, x186003, x186004 => if x26 < x25 then (if 0 ≤ x26 then (if x26 < (x24.length : Int) then ((impl_Fair_kidOk.f x186000 x186001 x186002 x186003 x186004 ((rd_T38 x24 x26).f0) ((rd_T38 x24 x26).f1) ((rd_T38 x24 x26).f2) ((rd_T38 x24 x26).f3.f0) ((rd_T38 x24 x26).f3.f1) ((rd_T38 x24 x26).f3.f2)).bind fun t190 => (if t190 = true then (if x26 > 0 then (if 0 ≤ (wrap64 (x26 - 1)) then (if (wrap64 (x26 - 1)) < (x186004.length : Int) then (if ((rd_T38 x186004 (wrap64 (x26 - 1))).f0) ≥ ((rd_T38 x24 x26).f0) then (some false) else (impl_FairOk.l0 k x24 x25 (wrap64 (x26 + 1)) x186000 x186001 x186002 x186003 x186004)) else (none)) else (none)) else (impl_FairOk.l0 k x24 x25 (wrap64 (x26 + 1)) x186000 x186001 x186002 x186003 x186004)) else (some false))) else (none)) else (none)) else (some true)
end
def impl_FairOk.f (k : Nat) (a0_0 : Int) (a0_1 : Int) (a0_2 : Int) (a0_3 : Int) (l0_4 : List (S38)) : Option (Bool) := (impl_Narrow.f a0_1 a0_2 a0_3 a0_0).bind fun t186 => (if t186 = true then ((impl_VecTop.f a0_1 a0_2 a0_3).bind fun t187 => (if t187 > 100000000000 then (impl_FairOk.j0 k true a0_0 a0_1 a0_2 a0_3 l0_4) else (impl_FairOk.j0 k (decide ((l0_4.length : Int) > 48)) a0_0 a0_1 a0_2 a0_3 l0_4))) else (impl_FairOk.j0 k true a0_0 a0_1 a0_2 a0_3 l0_4))
theorem impl_FairOk.mono_l : ∀ k, (∀ y0 y1 y2 y3 y4 y5, LeO (impl_FairOk.j0 k y0 y1 y2 y3 y4 y5) (impl_FairOk.j0 (k + 1) y0 y1 y2 y3 y4 y5)) ∧ (∀ y0 y1 y2 y3 y4 y5 y6 y7, LeO (impl_FairOk.l0 k y0 y1 y2 y3 y4 y5 y6 y7) (impl_FairOk.l0 (k + 1) y0 y1 y2 y3 y4 y5 y6 y7))
 | 0 => ⟨fun _ _ _ _ _ _ r h => by simp [impl_FairOk.j0] at h, fun _ _ _ _ _ _ _ _ r h => by simp [impl_FairOk.l0] at h⟩
 | k + 1 => by
  obtain ⟨ih0, ih1⟩ := impl_FairOk.mono_l k
  refine ⟨?_, ?_⟩
  ·intro y0 y1 y2 y3 y4 y5
   unfold impl_FairOk.j0
   repeat' first
   | (with_reducible exact ih0 _ _ _ _ _ _)
   | (with_reducible exact ih1 _ _ _ _ _ _ _ _)
   | (with_reducible exact LeO.refl _)
   | (with_reducible exact LeO.none _)
   | (with_reducible refine LeO.ite ?_ ?_)
   | (with_reducible refine LeO.bind ?_ (fun _ => ?_))
   | exact ih0 _ _ _ _ _ _
   | exact ih1 _ _ _ _ _ _ _ _
   | exact LeO.none _
   | refine LeO.ite ?_ ?_
   | refine LeO.bind ?_ (fun _ => ?_)
  ·intro y0 y1 y2 y3 y4 y5 y6 y7
   unfold impl_FairOk.l0
   repeat' first
   | (with_reducible exact ih0 _ _ _ _ _ _)
   | (with_reducible exact ih1 _ _ _ _ _ _ _ _)
   | (with_reducible exact LeO.refl _)
   | (with_reducible exact LeO.none _)
   | (with_reducible refine LeO.ite ?_ ?_)
   | (with_reducible refine LeO.bind ?_ (fun _ => ?_))
   | exact ih0 _ _ _ _ _ _
   | exact ih1 _ _ _ _ _ _ _ _
   | exact LeO.none _
   | refine LeO.ite ?_ ?_
   | refine LeO.bind ?_ (fun _ => ?_)
theorem impl_FairOk.mono : ∀ a0 a1 a2 a3 a4 k, LeO (impl_FairOk.f k a0 a1 a2 a3 a4) (impl_FairOk.f (k + 1) a0 a1 a2 a3 a4) := by
 intro a0 a1 a2 a3 a4 k
 obtain ⟨ih0, ih1⟩ := impl_FairOk.mono_l k
 unfold impl_FairOk.f
 repeat' first
   | (with_reducible exact ih0 _ _ _ _ _ _)
   | (with_reducible exact ih1 _ _ _ _ _ _ _ _)
   | (with_reducible exact LeO.refl _)
   | (with_reducible exact LeO.none _)
   | (with_reducible refine LeO.ite ?_ ?_)
   | (with_reducible refine LeO.bind ?_ (fun _ => ?_))
   | exact ih0 _ _ _ _ _ _
   | exact ih1 _ _ _ _ _ _ _ _
   | exact LeO.none _
   | refine LeO.ite ?_ ?_
   | refine LeO.bind ?_ (fun _ => ?_)
def impl_FairOk.T6 : Bool × List (List Nat × List Nat) := (true, [([], []), ([], []), ([0, 1], [0, 1]), ([2], [2]), ([3, 2], [3]), ([4], [4]), ([5, 4], [4, 5]), ([6, 4, 4], [4, 6]), ([7], [7]), ([8, 7], [7, 8]), ([7], [7]), ([10, 7], [7, 10]), ([9, 11, 7], [7, 9, 11]), ([12, 7], [7, 12]), ([13, 7], [7, 13]), ([7], [7]), ([15, 7], [7, 15]), ([14, 16, 7], [7, 14, 16]), ([7, 17, 4], [4, 7, 17]), ([4, 18], [4, 18])])
def impl_FairOk.B6 : List Nat := [0, 0, 3, 7, 15, 31, 63, 127, 255, 511, 255, 1279, 4095, 8191, 16383, 255, 33023, 131071, 262143, 524287]
theorem impl_FairOk.tab6 : rtab .any (opsOf Try.f18 6) = impl_FairOk.T6 := by kernel_rfl
theorem impl_FairOk.bits6 : waitsOk impl_FairOk.T6.2 impl_FairOk.B6 = true := by kernel_rfl
set_option maxHeartbeats 8000000 in
set_option maxRecDepth 100000 in
theorem impl_FairOk.calls (k : Nat) (a0_0 : Int) (a0_1 : Int) (a0_2 : Int) (a0_3 : Int) (A0_4 : Option Addr) (c0_4 : Nat) (l0_4 : List (S38)) (r : Bool) (w : World) (hr0_4 : Kd.C k38 w A0_4 l0_4.length l0_4) (hc0_4 : l0_4.length ≤ c0_4) (h : impl_FairOk.f k a0_0 a0_1 a0_2 a0_3 l0_4 = some r) :
  Calls Try.prog 18 #[.agg #[.int .i64 a0_0, .int .i64 a0_1, .int .i64 a0_2, .int .i64 a0_3, .slice A0_4 l0_4.length c0_4]] w fun e w' => e = .returned (.bool r) ∧ Below w.heap.size w w' := by
 have hu32 := Try.underlying32; have hu29 := Try.underlying29; have hu38 := Try.underlying38
 have HR0_4 := Aside0.mk hr0_4
 have HC0_4 := Aside0.mk hc0_4
 clear hr0_4 hc0_4; have HB := Aside0.mk (Below.refl w.heap.size w)
 have H : ((impl_Narrow.f a0_1 a0_2 a0_3 a0_0).bind fun t186 => (if t186 = true then ((impl_VecTop.f a0_1 a0_2 a0_3).bind fun t187 => (if t187 > 100000000000 then (impl_FairOk.j0 k true a0_0 a0_1 a0_2 a0_3 l0_4) else (impl_FairOk.j0 k (decide ((l0_4.length : Int) > 48)) a0_0 a0_1 a0_2 a0_3 l0_4))) else (impl_FairOk.j0 k true a0_0 a0_1 a0_2 a0_3 l0_4))) = some r := h
 clear h
 have HC2 := Aside0.mk H
 clear H
 go_enter Try.func18, Try.ntmps18
 go_upto_region 1 with (first | ((with_reducible refine gd_ 1 rfl ?_); (try (refine gate_guard (by rfl) ?_; dsimp only)); refine bv_ 1 #[.int .i64 a0_0, .int .i64 a0_1, .int .i64 a0_2, .int .i64 a0_3, .slice A0_4 l0_4.length c0_4] 32 ?_; intro gb185 hg w3 hbox hb; have BK185 := Aside0.mk (hbox); have GW185 := gw_ HB hg; have GE185 := gw_ HB hg; replace HB := Aside0.mk (below_step (be_ HB) hb); clear hb hbox hg))
 (try simp only [Act.put, ls0_, ls1_, ls2_])
 go_cut [22] (fun v22 wc => ∃ (kq : Nat) (x22_1 : Bool), v22 = .bool x22_1 ∧ Aside0 (impl_FairOk.j0 kq x22_1 a0_0 a0_1 a0_2 a0_3 l0_4 = some r) ∧ Aside0 (kq ≤ k) ∧ Aside0 (wc.heap[gb185]? = some (.cells #[.int .i64 a0_0, .int .i64 a0_1, .int .i64 a0_2, .int .i64 a0_3, (.slice A0_4 l0_4.length c0_4)] 32 (0, 0))) ∧ Aside0 (Below w.heap.size w wc))
 case first =>
  have H := HC2.out
  clear HC2
  replace H := Option.bind_eq_some_iff.mp H
  obtain ⟨t186, A40, H⟩ := H
  replace H : (if t186 = true then ((impl_VecTop.f a0_1 a0_2 a0_3).bind fun t187 => (if t187 > 100000000000 then (impl_FairOk.j0 k true a0_0 a0_1 a0_2 a0_3 l0_4) else (impl_FairOk.j0 k (decide ((l0_4.length : Int) > 48)) a0_0 a0_1 a0_2 a0_3 l0_4))) else (impl_FairOk.j0 k true a0_0 a0_1 a0_2 a0_3 l0_4)) = some r := H
  have A4 := Aside0.mk A40
  clear A40
  by_cases c5 : t186 = true
  ·subst c5
   have H1 : ((impl_VecTop.f a0_1 a0_2 a0_3).bind fun t187 => (if t187 > 100000000000 then (impl_FairOk.j0 k true a0_0 a0_1 a0_2 a0_3 l0_4) else (impl_FairOk.j0 k (decide ((l0_4.length : Int) > 48)) a0_0 a0_1 a0_2 a0_3 l0_4))) = some r := by rw [if_pos rfl] at H; exact H
   clear H
   have H := H1
   clear H1
   replace H := Option.bind_eq_some_iff.mp H
   obtain ⟨t187, A60, H⟩ := H
   replace H : (if t187 > 100000000000 then (impl_FairOk.j0 k true a0_0 a0_1 a0_2 a0_3 l0_4) else (impl_FairOk.j0 k (decide ((l0_4.length : Int) > 48)) a0_0 a0_1 a0_2 a0_3 l0_4)) = some r := H
   have A6 := Aside0.mk A60
   clear A60
   by_cases c7 : t187 > 100000000000
   ·rw [if_pos c7] at H
    have c7b0 : decide (100000000000 < t187) = true := decide_eq_true c7
    clear c7
    (first | rw [c7b0] | (simp only [i64_w, i32_w]; rw [c7b0]) | skip)
    have H' := Aside0.mk H
    clear H; obtain ⟨hcz8_0, hcz8_1, hcz8_2, hcz8_3, hcz8_4, hfz8_0, hfz8_1, hfz8_2, hfz8_3, hfz8_4⟩ := bz5_ BK185
    go_wp2_with (first | ((with_reducible refine gc_ 51 rfl ?_); refine gl_ 9 Try.func51 #[.agg #[.int .i64 a0_1, .int .i64 a0_2, .int .i64 a0_3], .int .i64 a0_0] ?_; (with_reducible refine (impl_Narrow.calls a0_1 a0_2 a0_3 a0_0 true _ A4.out).mono ?_); rintro e w9 ⟨rfl, hb⟩; refine ⟨_, rfl, ?_⟩; replace BK185 := bb_ BK185 hb; replace HB := Aside0.mk (below_step (bf_ HB) hb); (try clear hb); (try clear hb2); (try clear hk); (try clear hi); obtain ⟨hcz10_0, hcz10_1, hcz10_2, hcz10_3, hcz10_4, hfz10_0, hfz10_1, hfz10_2, hfz10_3, hfz10_4⟩ := bz5_ BK185) | (go_at_call 52; (with_reducible refine (impl_VecTop.calls a0_1 a0_2 a0_3 t187 _ A6.out).mono ?_); rintro e w11 ⟨rfl, hb⟩; replace BK185 := bb_ BK185 hb; replace HB := Aside0.mk (below_step (bf_ HB) hb); (try clear hb); (try clear hb2); (try clear hk); (try clear hi)))
    go_meet
    case rel => exact ⟨_, (true), (by first | rfl | (simp; done) | (simp [*]; done)), H', ⟨by first | omega | exact Nat.le_refl _⟩, ⟨bk_ BK185⟩, ⟨bf_ HB⟩⟩
   ·rw [if_neg c7] at H
    have c7b0 : decide (100000000000 < t187) = false := decide_eq_false c7
    clear c7
    (first | rw [c7b0] | (simp only [i64_w, i32_w]; rw [c7b0]) | skip)
    have H' := Aside0.mk H
    clear H; obtain ⟨hcz12_0, hcz12_1, hcz12_2, hcz12_3, hcz12_4, hfz12_0, hfz12_1, hfz12_2, hfz12_3, hfz12_4⟩ := bz5_ BK185
    go_wp2_with (first | ((with_reducible refine gc_ 51 rfl ?_); refine gl_ 9 Try.func51 #[.agg #[.int .i64 a0_1, .int .i64 a0_2, .int .i64 a0_3], .int .i64 a0_0] ?_; (with_reducible refine (impl_Narrow.calls a0_1 a0_2 a0_3 a0_0 true _ A4.out).mono ?_); rintro e w13 ⟨rfl, hb⟩; refine ⟨_, rfl, ?_⟩; replace BK185 := bb_ BK185 hb; replace HB := Aside0.mk (below_step (bf_ HB) hb); (try clear hb); (try clear hb2); (try clear hk); (try clear hi); obtain ⟨hcz14_0, hcz14_1, hcz14_2, hcz14_3, hcz14_4, hfz14_0, hfz14_1, hfz14_2, hfz14_3, hfz14_4⟩ := bz5_ BK185) | (go_at_call 52; (with_reducible refine (impl_VecTop.calls a0_1 a0_2 a0_3 t187 _ A6.out).mono ?_); rintro e w15 ⟨rfl, hb⟩; replace BK185 := bb_ BK185 hb; replace HB := Aside0.mk (below_step (bf_ HB) hb); (try clear hb); (try clear hb2); (try clear hk); (try clear hi); obtain ⟨hcz16_0, hcz16_1, hcz16_2, hcz16_3, hcz16_4, hfz16_0, hfz16_1, hfz16_2, hfz16_3, hfz16_4⟩ := bz5_ BK185))
    go_meet
    case rel => exact ⟨_, (decide ((l0_4.length : Int) > 48)), (by first | rfl | (simp; done) | (simp [*]; done)), H', ⟨by first | omega | exact Nat.le_refl _⟩, ⟨bk_ BK185⟩, ⟨bf_ HB⟩⟩
  ·replace c5 := Bool.eq_false_iff.mpr c5
   subst c5
   have H1 : (impl_FairOk.j0 k true a0_0 a0_1 a0_2 a0_3 l0_4) = some r := by rw [if_neg (show ¬ (false = true) by decide)] at H; exact H
   clear H
   have H := H1
   clear H1
   have H' := Aside0.mk H
   clear H; obtain ⟨hcz17_0, hcz17_1, hcz17_2, hcz17_3, hcz17_4, hfz17_0, hfz17_1, hfz17_2, hfz17_3, hfz17_4⟩ := bz5_ BK185
   go_wp2_with (first | ((with_reducible refine gc_ 51 rfl ?_); refine gl_ 9 Try.func51 #[.agg #[.int .i64 a0_1, .int .i64 a0_2, .int .i64 a0_3], .int .i64 a0_0] ?_; (with_reducible refine (impl_Narrow.calls a0_1 a0_2 a0_3 a0_0 false _ A4.out).mono ?_); rintro e w18 ⟨rfl, hb⟩; refine ⟨_, rfl, ?_⟩; replace BK185 := bb_ BK185 hb; replace HB := Aside0.mk (below_step (bf_ HB) hb); (try clear hb); (try clear hb2); (try clear hk); (try clear hi)))
   go_meet
   case rel => exact ⟨_, (true), (by first | rfl | (simp; done) | (simp [*]; done)), H', ⟨by first | omega | exact Nat.le_refl _⟩, ⟨bk_ BK185⟩, ⟨bf_ HB⟩⟩
 case rest =>
  clear HC2; (try clear c1); (try clear p2); (try clear c5); (try clear c7); (try clear c7b0); (try clear c18); (try clear hcz10_0 hcz10_1 hcz10_2 hcz10_3 hcz10_4 hfz10_0 hfz10_1 hfz10_2 hfz10_3 hfz10_4); (try clear hcz12_0 hcz12_1 hcz12_2 hcz12_3 hcz12_4 hfz12_0 hfz12_1 hfz12_2 hfz12_3 hfz12_4); (try clear hcz14_0 hcz14_1 hcz14_2 hcz14_3 hcz14_4 hfz14_0 hfz14_1 hfz14_2 hfz14_3 hfz14_4); (try clear hcz16_0 hcz16_1 hcz16_2 hcz16_3 hcz16_4 hfz16_0 hfz16_1 hfz16_2 hfz16_3 hfz16_4); (try clear hcz17_0 hcz17_1 hcz17_2 hcz17_3 hcz17_4 hfz17_0 hfz17_1 hfz17_2 hfz17_3 hfz17_4); (try clear hcz8_0 hcz8_1 hcz8_2 hcz8_3 hcz8_4 hfz8_0 hfz8_1 hfz8_2 hfz8_3 hfz8_4)
  obtain ⟨kq, x22_1, rfl, HA, HJ1, BK185, HB⟩ := hcut
  cases kq with
  | zero => exact absurd HA.out (by simp [impl_FairOk.j0])
  | succ kj1 =>
   have H := HA.out
   clear HA
   simp only [impl_FairOk.j0] at H
   by_cases c19 : x22_1 = true
   ·subst c19
    have H1 : (some false) = some r := by rw [if_pos rfl] at H; exact H
    clear H
    have H := H1
    clear H1
    obtain rfl := Option.some.inj H
    go_wp2
    go_ret
    exact ⟨by first | rfl | (simp [errW_none, errW_some] <;> rfl) | (simp [*, errW_none, errW_some] <;> rfl), bf_ HB⟩
   ·replace c19 := Bool.eq_false_iff.mpr c19
    subst c19
    have H1 : (impl_FairOk.l0 kj1 l0_4 (l0_4.length : Int) 0 a0_0 a0_1 a0_2 a0_3 l0_4) = some r := by rw [if_neg (show ¬ (false = true) by decide)] at H; exact H
    clear H
    have H := H1
    clear H1
    have H' := Aside0.mk H
    clear H; obtain ⟨hcz20_0, hcz20_1, hcz20_2, hcz20_3, hcz20_4, hfz20_0, hfz20_1, hfz20_2, hfz20_3, hfz20_4⟩ := bz5_ BK185
    go_wp2
    go_loopg [26] kj1 (fun kq v26 w' => ∃ (x26_2 : Int), v26 = .int .i64 x26_2 ∧ Aside0 (impl_FairOk.l0 kq l0_4 (l0_4.length : Int) x26_2 a0_0 a0_1 a0_2 a0_3 l0_4 = some r) ∧ Aside0 (kq ≤ kj1) ∧ Aside0 (w'.heap[gb185]? = some (.cells #[.int .i64 a0_0, .int .i64 a0_1, .int .i64 a0_2, .int .i64 a0_3, (.slice A0_4 l0_4.length c0_4)] 32 (0, 0))) ∧ Aside0 (Below w.heap.size w w'))
    case atStart => exact ⟨(0), (by first | rfl | (simp; done) | (simp [*]; done)), H', ⟨Nat.le_refl _⟩, ⟨bk_ BK185⟩, ⟨bf_ HB⟩⟩
    case round =>
     clear H'
     (try clear c1); (try clear p2 p2); (try clear c5); (try clear c7); (try clear c7b0); (try clear c18); (try clear c19); (try clear hcz10_0 hcz10_1 hcz10_2 hcz10_3 hcz10_4 hfz10_0 hfz10_1 hfz10_2 hfz10_3 hfz10_4); (try clear hcz12_0 hcz12_1 hcz12_2 hcz12_3 hcz12_4 hfz12_0 hfz12_1 hfz12_2 hfz12_3 hfz12_4); (try clear hcz14_0 hcz14_1 hcz14_2 hcz14_3 hcz14_4 hfz14_0 hfz14_1 hfz14_2 hfz14_3 hfz14_4); (try clear hcz16_0 hcz16_1 hcz16_2 hcz16_3 hcz16_4 hfz16_0 hfz16_1 hfz16_2 hfz16_3 hfz16_4); (try clear hcz17_0 hcz17_1 hcz17_2 hcz17_3 hcz17_4 hfz17_0 hfz17_1 hfz17_2 hfz17_3 hfz17_4); (try clear hcz20_0 hcz20_1 hcz20_2 hcz20_3 hcz20_4 hfz20_0 hfz20_1 hfz20_2 hfz20_3 hfz20_4); (try clear hcz8_0 hcz8_1 hcz8_2 hcz8_3 hcz8_4 hfz8_0 hfz8_1 hfz8_2 hfz8_3 hfz8_4)
     obtain ⟨x26_2, rfl, HA, HK2, BK185, HB⟩ := hrel
     cases gk with
     | zero => exact absurd HA.out (by simp [impl_FairOk.l0])
     | succ k2 =>
      have H := HA.out
      clear HA
      simp only [impl_FairOk.l0] at H
      by_cases c21 : x26_2 < (l0_4.length : Int)
      ·rw [if_pos c21] at H
       have c21b0 : decide (x26_2 < (l0_4.length : Int)) = true := decide_eq_true c21
       clear c21
       by_cases c22 : 0 ≤ x26_2
       ·rw [if_pos c22] at H
        have c22b0 : decide (0 ≤ x26_2) = true := decide_eq_true c22
        clear c22
        by_cases c23 : x26_2 < (l0_4.length : Int)
        ·rw [if_pos c23] at H
         have c23b0 : decide (x26_2 < (l0_4.length : Int)) = true := decide_eq_true c23
         clear c23
         replace H := Option.bind_eq_some_iff.mp H
         obtain ⟨t190, A240, H⟩ := H
         replace H : (if t190 = true then (if x26_2 > 0 then (if 0 ≤ (wrap64 (x26_2 - 1)) then (if (wrap64 (x26_2 - 1)) < (l0_4.length : Int) then (if ((rd_T38 l0_4 (wrap64 (x26_2 - 1))).f0) ≥ ((rd_T38 l0_4 x26_2).f0) then (some false) else (impl_FairOk.l0 k2 l0_4 (l0_4.length : Int) (wrap64 (x26_2 + 1)) a0_0 a0_1 a0_2 a0_3 l0_4)) else (none)) else (none)) else (impl_FairOk.l0 k2 l0_4 (l0_4.length : Int) (wrap64 (x26_2 + 1)) a0_0 a0_1 a0_2 a0_3 l0_4)) else (some false)) = some r := H
         have A24 := Aside0.mk A240
         clear A240
         by_cases c25 : t190 = true
         ·subst c25
          have H1 : (if x26_2 > 0 then (if 0 ≤ (wrap64 (x26_2 - 1)) then (if (wrap64 (x26_2 - 1)) < (l0_4.length : Int) then (if ((rd_T38 l0_4 (wrap64 (x26_2 - 1))).f0) ≥ ((rd_T38 l0_4 x26_2).f0) then (some false) else (impl_FairOk.l0 k2 l0_4 (l0_4.length : Int) (wrap64 (x26_2 + 1)) a0_0 a0_1 a0_2 a0_3 l0_4)) else (none)) else (none)) else (impl_FairOk.l0 k2 l0_4 (l0_4.length : Int) (wrap64 (x26_2 + 1)) a0_0 a0_1 a0_2 a0_3 l0_4)) = some r := by rw [if_pos rfl] at H; exact H
          clear H
          have H := H1
          clear H1
          by_cases c26 : x26_2 > 0
          ·rw [if_pos c26] at H
           have c26b0 : decide (0 < x26_2) = true := decide_eq_true c26
           clear c26
           obtain ⟨ji27, hji27⟩ : ∃ j_ : Int, (wrap64 (x26_2 - 1)) = j_ := ⟨_, rfl⟩
           replace H : (if 0 ≤ (ji27) then (if (ji27) < (l0_4.length : Int) then (if ((rd_T38 l0_4 (ji27)).f0) ≥ ((rd_T38 l0_4 x26_2).f0) then (some false) else (impl_FairOk.l0 k2 l0_4 (l0_4.length : Int) (wrap64 (x26_2 + 1)) a0_0 a0_1 a0_2 a0_3 l0_4)) else (none)) else (none)) = some r := by first | (rw [hji27] at H; exact H) | (simp only [hji27] at H ⊢; exact H)
           (try rw [hji27] at A24)
           have hji27w : (IntKind.i64.wrap (x26_2 - 1)) = ji27 := (i64_w _).trans hji27
           by_cases c28 : 0 ≤ (ji27)
           ·rw [if_pos c28] at H
            have c28b0 : decide (0 ≤ (ji27)) = true := decide_eq_true c28
            clear c28
            by_cases c29 : (ji27) < (l0_4.length : Int)
            ·rw [if_pos c29] at H
             have c29b0 : decide ((ji27) < (l0_4.length : Int)) = true := decide_eq_true c29
             clear c29
             by_cases c30 : ((rd_T38 l0_4 (ji27)).f0) ≥ ((rd_T38 l0_4 x26_2).f0)
             ·rw [if_pos c30] at H
              have c30b0 : decide (((rd_T38 l0_4 x26_2).f0) ≤ ((rd_T38 l0_4 (ji27)).f0)) = true := decide_eq_true c30
              clear c30
              obtain rfl := Option.some.inj H
              have p188 : 0 ≤ (x26_2 : Int) := od_
              have q188 : x26_2 < (l0_4.length : Int) := od_
              obtain ⟨ad188, e188, hx188_0, hx188_1, hx188_2, hx188_3, hx188_4, hx188_5⟩ := at_T38 HR0_4.out x26_2 p188 q188
              cases e188
              replace hx188_0 := hb_ HB hx188_0
              replace hx188_1 := hb_ HB hx188_1
              replace hx188_2 := hb_ HB hx188_2
              replace hx188_3 := hb_ HB hx188_3
              replace hx188_4 := hb_ HB hx188_4
              replace hx188_5 := hb_ HB hx188_5
              replace p188 := eq_true p188
              replace q188 := eq_true q188
              try go_wp2_with (first | ((with_reducible refine gd_ 4 rfl ?_); (try (refine gate_guard (by rfl) ?_; dsimp only)); refine bv_ 4 #[.int .i64 0, .int .i64 0, .bool false, .int .i64 0, .int .i64 0, .int .i64 0] 38 ?_; intro gb189 hg w31 hbox hb; have BK189 := Aside0.mk (hbox); have GW189 := gw_ HB hg; have GE189 := gw_ HB hg; replace HB := Aside0.mk (below_step (bf_ HB) hb); have NB185_189 := nl_ BK185 hg; have NB189_185 := ng_ BK185 hg; replace BK185 := bb_ BK185 hb; clear hb hbox hg; have hnb32 := NB189_185.out; have hnc32 := NB185_189.out; obtain ⟨hcz33_0, hcz33_1, hcz33_2, hcz33_3, hcz33_4, hcz33_5, hfz33_0, hfz33_1, hfz33_2, hfz33_3, hfz33_4, hfz33_5⟩ := bz6_ BK189))
              generalize hW_ : ((((((w31.setCell ⟨gb189, 0, none⟩ (.int .i64 ((rd_T38 l0_4 x26_2).f0))).setCell ⟨gb189, 1, none⟩ (.int .i64 ((rd_T38 l0_4 x26_2).f1))).setCell ⟨gb189, 2, none⟩ (.bool ((rd_T38 l0_4 x26_2).f2))).setCell ⟨gb189, 3, none⟩ (.int .i64 ((rd_T38 l0_4 x26_2).f3.f0))).setCell ⟨gb189, 4, none⟩ (.int .i64 ((rd_T38 l0_4 x26_2).f3.f1))).setCell ⟨gb189, 5, none⟩ (.int .i64 ((rd_T38 l0_4 x26_2).f3.f2))) = w34
              replace BK185 := fc6_ hW_ BK185 NB185_189
              replace BK189 : Aside0 (w34.heap[gb189]? = some (.cells #[.int .i64 ((rd_T38 l0_4 x26_2).f0), .int .i64 ((rd_T38 l0_4 x26_2).f1), .bool ((rd_T38 l0_4 x26_2).f2), .int .i64 ((rd_T38 l0_4 x26_2).f3.f0), .int .i64 ((rd_T38 l0_4 x26_2).f3.f1), .int .i64 ((rd_T38 l0_4 x26_2).f3.f2)] 38 (0, 0))) := pc6_ hW_ BK189
              replace HB : Aside0 (Below w.heap.size w w34) := ⟨by cases hW_; exact bf_ HB⟩
              clear hW_; replace BK185 := Aside0.mk (blk_drew BK185.out); replace BK189 := Aside0.mk (blk_drew BK189.out); replace HB := Aside0.mk (below_drew1 HB.out)
              have p191 : 0 ≤ ((ji27) : Int) := od_
              have q191 : (ji27) < (l0_4.length : Int) := od_
              obtain ⟨ad191, e191, hx191_0, hx191_1, hx191_2, hx191_3, hx191_4, hx191_5⟩ := at_T38 HR0_4.out (ji27) p191 q191
              have hw191_5 := hx191_5; have hw191_4 := hx191_4; have hw191_3 := hx191_3; have hw191_2 := hx191_2; have hw191_1 := hx191_1; have hw191_0 := hx191_0
              obtain rfl : ad188 = ad191 := (by injection e191)
              replace hx191_0 := hb_ HB hx191_0
              replace hx191_1 := hb_ HB hx191_1
              replace hx191_2 := hb_ HB hx191_2
              replace hx191_3 := hb_ HB hx191_3
              replace hx191_4 := hb_ HB hx191_4
              replace hx191_5 := hb_ HB hx191_5
              replace p191 := eq_true p191
              replace q191 := eq_true q191
              refine start_ (n := 20) (S := fun w' => cw_ w' gb185 0 (.int .i64 a0_0) ∧ cw_ w' gb185 1 (.int .i64 a0_1) ∧ cw_ w' gb185 2 (.int .i64 a0_2) ∧ cw_ w' gb185 3 (.int .i64 a0_3) ∧ cw_ w' gb185 4 (.slice (some ad188) l0_4.length c0_4) ∧ cw_ w' gb189 0 (.int .i64 ((rd_T38 l0_4 x26_2).f0)) ∧ cw_ w' gb189 1 (.int .i64 ((rd_T38 l0_4 x26_2).f1)) ∧ cw_ w' gb189 2 (.bool ((rd_T38 l0_4 x26_2).f2)) ∧ cw_ w' gb189 3 (.int .i64 ((rd_T38 l0_4 x26_2).f3.f0)) ∧ cw_ w' gb189 4 (.int .i64 ((rd_T38 l0_4 x26_2).f3.f1)) ∧ cw_ w' gb189 5 (.int .i64 ((rd_T38 l0_4 x26_2).f3.f2)) ∧ w'.cell? (ad188.add (((ji27)).toNat * 6)) = some (.int .i64 ((rd_T38 l0_4 (ji27)).f0)) ∧ w'.cell? ⟨(ad188.add (((ji27)).toNat * 6)).block, (ad188.add (((ji27)).toNat * 6)).off + 1, none⟩ = some (.int .i64 ((rd_T38 l0_4 (ji27)).f1)) ∧ w'.cell? ⟨(ad188.add (((ji27)).toNat * 6)).block, (ad188.add (((ji27)).toNat * 6)).off + 2, none⟩ = some (.bool ((rd_T38 l0_4 (ji27)).f2)) ∧ w'.cell? ⟨(ad188.add (((ji27)).toNat * 6)).block, (ad188.add (((ji27)).toNat * 6)).off + 3, none⟩ = some (.int .i64 ((rd_T38 l0_4 (ji27)).f3.f0)) ∧ w'.cell? ⟨(ad188.add (((ji27)).toNat * 6)).block, (ad188.add (((ji27)).toNat * 6)).off + 4, none⟩ = some (.int .i64 ((rd_T38 l0_4 (ji27)).f3.f1)) ∧ w'.cell? ⟨(ad188.add (((ji27)).toNat * 6)).block, (ad188.add (((ji27)).toNat * 6)).off + 5, none⟩ = some (.int .i64 ((rd_T38 l0_4 (ji27)).f3.f2))) (ds := []) (bs 20 0) (by kernel_rfl) rfl rfl ⟨bt_ BK185 0, bt_ BK185 1, bt_ BK185 2, bt_ BK185 3, bt_ BK185 4, bt_ BK189 0, bt_ BK189 1, bt_ BK189 2, bt_ BK189 3, bt_ BK189 4, bt_ BK189 5, (hd_ HB hw191_0), (hd_ HB hw191_1), (hd_ HB hw191_2), (hd_ HB hw191_3), (hd_ HB hw191_4), (hd_ HB hw191_5)⟩ (fun hHeld => ?_); refine with_tabW impl_FairOk.tab6 impl_FairOk.bits6 (fun HT_ HW_ => ?_)
              generalize w34.drew = w35 at BK185 BK189 HB hx191_0 hx191_1 hx191_2 hx191_3 hx191_4 hx191_5 hHeld ⊢
              refine tk_ 0 31 (bs 20 1) HT_ HW_ hHeld ?_
              refine tk_ 1 32 (bs 20 2) HT_ HW_ hHeld ?_
              refine on_ 2 (some 33) (bs 20 3) HT_ (fun K hK => ?_)
              refine gs_ Try.func53 #[.agg #[.int .i64 a0_0, .int .i64 a0_1, .int .i64 a0_2, .int .i64 a0_3, .slice (some ad188) l0_4.length c0_4], .agg #[.int .i64 ((rd_T38 l0_4 x26_2).f0), .int .i64 ((rd_T38 l0_4 x26_2).f1), .bool ((rd_T38 l0_4 x26_2).f2), .int .i64 ((rd_T38 l0_4 x26_2).f3.f0), .int .i64 ((rd_T38 l0_4 x26_2).f3.f1), .int .i64 ((rd_T38 l0_4 x26_2).f3.f2)]] ?_
              with_reducible refine (impl_Fair_kidOk.calls a0_0 a0_1 a0_2 a0_3 _ _ l0_4 ((rd_T38 l0_4 x26_2).f0) ((rd_T38 l0_4 x26_2).f1) ((rd_T38 l0_4 x26_2).f2) ((rd_T38 l0_4 x26_2).f3.f0) ((rd_T38 l0_4 x26_2).f3.f1) ((rd_T38 l0_4 x26_2).f3.f2) true _ ?side1 ?side2 A24.out).mono ?_
              (case side1 => repeat (first | exact (Kd.C_below HR0_4.out HB.out) | (with_reducible refine Kd.C_alloc ?_ _) | (with_reducible refine Kd.C_drewN ?_ _) | (with_reducible refine Kd.C_drew ?_)))
              (case side2 => exact HC0_4.out)
              rintro e w36 ⟨rfl, hb⟩
              refine ⟨_, rfl, ?_⟩
              replace BK185 := bb_ BK185 hb; replace BK189 := bb_ BK189 hb; replace HB := Aside0.mk (below_step (bf_ HB) hb); (try clear hb); (try clear hb2); (try clear hk); (try clear hi)
              refine hK.out _ _ ⟨bt_ BK185 0, bt_ BK185 1, bt_ BK185 2, bt_ BK185 3, bt_ BK185 4, bt_ BK189 0, bt_ BK189 1, bt_ BK189 2, bt_ BK189 3, bt_ BK189 4, bt_ BK189 5, (hd_ HB hw191_0), (hd_ HB hw191_1), (hd_ HB hw191_2), (hd_ HB hw191_3), (hd_ HB hw191_4), (hd_ HB hw191_5)⟩ (fun hHeld => ?_)
              clear hK K
              refine norm_ (a' := ?_) ?_ ?_
              rotate_left
              ·show Act.put _ (some 33) _ = _
               simp only [Act.put, ls0_, ls1_, ls2_, i64_w, i32_w]
               rfl
              refine ps_ 3 34 (bs 20 4) HT_ ?_
              refine ps_ 4 35 (bs 20 5) HT_ ?_
              refine ps_ 5 36 (bs 20 6) HT_ ?_
              refine ps_ 6 37 (bs 20 7) HT_ ?_
              refine ps_ 7 38 (bs 20 8) HT_ ?_
              refine ps_ 8 39 (bs 20 9) HT_ ?_
              refine ps_ 10 41 (bm 20 1535) HT_ ?_
              refine ps_ 11 42 (bm 20 3583) HT_ ?_
              refine ps_ 15 46 (bm 20 36351) HT_ ?_
              refine tk_ 9 40 (bm 20 36863) HT_ HW_ hHeld ?_
              refine ps_ 12 43 (bm 20 40959) HT_ ?_
              refine ps_ 13 44 (bm 20 49151) HT_ ?_
              refine tk_ 14 45 (bs 20 16) HT_ HW_ hHeld ?_
              refine tk_ 16 47 (bs 20 17) HT_ HW_ hHeld ?_
              refine ps_ 17 48 (bs 20 18) HT_ ?_
              refine ps_ 18 49 (bs 20 19) HT_ ?_
              refine ps_ 19 50 (bs 20 20) HT_ ?_
              refine done_ (done_of HT_.out (by kernel_rfl)) ?_
              try go_wp2
              go_ret
              exact ⟨by first | rfl | (simp [errW_none, errW_some] <;> rfl) | (simp only [← hji27]; first | rfl | (simp [errW_none, errW_some] <;> rfl)) | (simp [*, errW_none, errW_some] <;> rfl), bf_ HB⟩
             ·rw [if_neg c30] at H
              have c30b0 : decide (((rd_T38 l0_4 x26_2).f0) ≤ ((rd_T38 l0_4 (ji27)).f0)) = false := decide_eq_false c30
              clear c30
              have H' := Aside0.mk H
              clear H
              have p188 : 0 ≤ (x26_2 : Int) := od_
              have q188 : x26_2 < (l0_4.length : Int) := od_
              obtain ⟨ad188, e188, hx188_0, hx188_1, hx188_2, hx188_3, hx188_4, hx188_5⟩ := at_T38 HR0_4.out x26_2 p188 q188
              cases e188
              replace hx188_0 := hb_ HB hx188_0
              replace hx188_1 := hb_ HB hx188_1
              replace hx188_2 := hb_ HB hx188_2
              replace hx188_3 := hb_ HB hx188_3
              replace hx188_4 := hb_ HB hx188_4
              replace hx188_5 := hb_ HB hx188_5
              replace p188 := eq_true p188
              replace q188 := eq_true q188
              try go_wp2_with (first | ((with_reducible refine gd_ 4 rfl ?_); (try (refine gate_guard (by rfl) ?_; dsimp only)); refine bv_ 4 #[.int .i64 0, .int .i64 0, .bool false, .int .i64 0, .int .i64 0, .int .i64 0] 38 ?_; intro gb189 hg w37 hbox hb; have BK189 := Aside0.mk (hbox); have GW189 := gw_ HB hg; have GE189 := gw_ HB hg; replace HB := Aside0.mk (below_step (bf_ HB) hb); have NB185_189 := nl_ BK185 hg; have NB189_185 := ng_ BK185 hg; replace BK185 := bb_ BK185 hb; clear hb hbox hg; have hnb38 := NB189_185.out; have hnc38 := NB185_189.out; obtain ⟨hcz39_0, hcz39_1, hcz39_2, hcz39_3, hcz39_4, hcz39_5, hfz39_0, hfz39_1, hfz39_2, hfz39_3, hfz39_4, hfz39_5⟩ := bz6_ BK189))
              generalize hW_ : ((((((w37.setCell ⟨gb189, 0, none⟩ (.int .i64 ((rd_T38 l0_4 x26_2).f0))).setCell ⟨gb189, 1, none⟩ (.int .i64 ((rd_T38 l0_4 x26_2).f1))).setCell ⟨gb189, 2, none⟩ (.bool ((rd_T38 l0_4 x26_2).f2))).setCell ⟨gb189, 3, none⟩ (.int .i64 ((rd_T38 l0_4 x26_2).f3.f0))).setCell ⟨gb189, 4, none⟩ (.int .i64 ((rd_T38 l0_4 x26_2).f3.f1))).setCell ⟨gb189, 5, none⟩ (.int .i64 ((rd_T38 l0_4 x26_2).f3.f2))) = w40
              replace BK185 := fc6_ hW_ BK185 NB185_189
              replace BK189 : Aside0 (w40.heap[gb189]? = some (.cells #[.int .i64 ((rd_T38 l0_4 x26_2).f0), .int .i64 ((rd_T38 l0_4 x26_2).f1), .bool ((rd_T38 l0_4 x26_2).f2), .int .i64 ((rd_T38 l0_4 x26_2).f3.f0), .int .i64 ((rd_T38 l0_4 x26_2).f3.f1), .int .i64 ((rd_T38 l0_4 x26_2).f3.f2)] 38 (0, 0))) := pc6_ hW_ BK189
              replace HB : Aside0 (Below w.heap.size w w40) := ⟨by cases hW_; exact bf_ HB⟩
              clear hW_; replace BK185 := Aside0.mk (blk_drew BK185.out); replace BK189 := Aside0.mk (blk_drew BK189.out); replace HB := Aside0.mk (below_drew1 HB.out)
              have p191 : 0 ≤ ((ji27) : Int) := od_
              have q191 : (ji27) < (l0_4.length : Int) := od_
              obtain ⟨ad191, e191, hx191_0, hx191_1, hx191_2, hx191_3, hx191_4, hx191_5⟩ := at_T38 HR0_4.out (ji27) p191 q191
              have hw191_5 := hx191_5; have hw191_4 := hx191_4; have hw191_3 := hx191_3; have hw191_2 := hx191_2; have hw191_1 := hx191_1; have hw191_0 := hx191_0
              obtain rfl : ad188 = ad191 := (by injection e191)
              replace hx191_0 := hb_ HB hx191_0
              replace hx191_1 := hb_ HB hx191_1
              replace hx191_2 := hb_ HB hx191_2
              replace hx191_3 := hb_ HB hx191_3
              replace hx191_4 := hb_ HB hx191_4
              replace hx191_5 := hb_ HB hx191_5
              replace p191 := eq_true p191
              replace q191 := eq_true q191
              refine start_ (n := 20) (S := fun w' => cw_ w' gb185 0 (.int .i64 a0_0) ∧ cw_ w' gb185 1 (.int .i64 a0_1) ∧ cw_ w' gb185 2 (.int .i64 a0_2) ∧ cw_ w' gb185 3 (.int .i64 a0_3) ∧ cw_ w' gb185 4 (.slice (some ad188) l0_4.length c0_4) ∧ cw_ w' gb189 0 (.int .i64 ((rd_T38 l0_4 x26_2).f0)) ∧ cw_ w' gb189 1 (.int .i64 ((rd_T38 l0_4 x26_2).f1)) ∧ cw_ w' gb189 2 (.bool ((rd_T38 l0_4 x26_2).f2)) ∧ cw_ w' gb189 3 (.int .i64 ((rd_T38 l0_4 x26_2).f3.f0)) ∧ cw_ w' gb189 4 (.int .i64 ((rd_T38 l0_4 x26_2).f3.f1)) ∧ cw_ w' gb189 5 (.int .i64 ((rd_T38 l0_4 x26_2).f3.f2)) ∧ w'.cell? (ad188.add (((ji27)).toNat * 6)) = some (.int .i64 ((rd_T38 l0_4 (ji27)).f0)) ∧ w'.cell? ⟨(ad188.add (((ji27)).toNat * 6)).block, (ad188.add (((ji27)).toNat * 6)).off + 1, none⟩ = some (.int .i64 ((rd_T38 l0_4 (ji27)).f1)) ∧ w'.cell? ⟨(ad188.add (((ji27)).toNat * 6)).block, (ad188.add (((ji27)).toNat * 6)).off + 2, none⟩ = some (.bool ((rd_T38 l0_4 (ji27)).f2)) ∧ w'.cell? ⟨(ad188.add (((ji27)).toNat * 6)).block, (ad188.add (((ji27)).toNat * 6)).off + 3, none⟩ = some (.int .i64 ((rd_T38 l0_4 (ji27)).f3.f0)) ∧ w'.cell? ⟨(ad188.add (((ji27)).toNat * 6)).block, (ad188.add (((ji27)).toNat * 6)).off + 4, none⟩ = some (.int .i64 ((rd_T38 l0_4 (ji27)).f3.f1)) ∧ w'.cell? ⟨(ad188.add (((ji27)).toNat * 6)).block, (ad188.add (((ji27)).toNat * 6)).off + 5, none⟩ = some (.int .i64 ((rd_T38 l0_4 (ji27)).f3.f2))) (ds := []) (bs 20 0) (by kernel_rfl) rfl rfl ⟨bt_ BK185 0, bt_ BK185 1, bt_ BK185 2, bt_ BK185 3, bt_ BK185 4, bt_ BK189 0, bt_ BK189 1, bt_ BK189 2, bt_ BK189 3, bt_ BK189 4, bt_ BK189 5, (hd_ HB hw191_0), (hd_ HB hw191_1), (hd_ HB hw191_2), (hd_ HB hw191_3), (hd_ HB hw191_4), (hd_ HB hw191_5)⟩ (fun hHeld => ?_); refine with_tabW impl_FairOk.tab6 impl_FairOk.bits6 (fun HT_ HW_ => ?_)
              generalize w40.drew = w41 at BK185 BK189 HB hx191_0 hx191_1 hx191_2 hx191_3 hx191_4 hx191_5 hHeld ⊢
              refine tk_ 0 31 (bs 20 1) HT_ HW_ hHeld ?_
              refine tk_ 1 32 (bs 20 2) HT_ HW_ hHeld ?_
              refine on_ 2 (some 33) (bs 20 3) HT_ (fun K hK => ?_)
              refine gs_ Try.func53 #[.agg #[.int .i64 a0_0, .int .i64 a0_1, .int .i64 a0_2, .int .i64 a0_3, .slice (some ad188) l0_4.length c0_4], .agg #[.int .i64 ((rd_T38 l0_4 x26_2).f0), .int .i64 ((rd_T38 l0_4 x26_2).f1), .bool ((rd_T38 l0_4 x26_2).f2), .int .i64 ((rd_T38 l0_4 x26_2).f3.f0), .int .i64 ((rd_T38 l0_4 x26_2).f3.f1), .int .i64 ((rd_T38 l0_4 x26_2).f3.f2)]] ?_
              with_reducible refine (impl_Fair_kidOk.calls a0_0 a0_1 a0_2 a0_3 _ _ l0_4 ((rd_T38 l0_4 x26_2).f0) ((rd_T38 l0_4 x26_2).f1) ((rd_T38 l0_4 x26_2).f2) ((rd_T38 l0_4 x26_2).f3.f0) ((rd_T38 l0_4 x26_2).f3.f1) ((rd_T38 l0_4 x26_2).f3.f2) true _ ?side1 ?side2 A24.out).mono ?_
              (case side1 => repeat (first | exact (Kd.C_below HR0_4.out HB.out) | (with_reducible refine Kd.C_alloc ?_ _) | (with_reducible refine Kd.C_drewN ?_ _) | (with_reducible refine Kd.C_drew ?_)))
              (case side2 => exact HC0_4.out)
              rintro e w42 ⟨rfl, hb⟩
              refine ⟨_, rfl, ?_⟩
              replace BK185 := bb_ BK185 hb; replace BK189 := bb_ BK189 hb; replace HB := Aside0.mk (below_step (bf_ HB) hb); (try clear hb); (try clear hb2); (try clear hk); (try clear hi)
              refine hK.out _ _ ⟨bt_ BK185 0, bt_ BK185 1, bt_ BK185 2, bt_ BK185 3, bt_ BK185 4, bt_ BK189 0, bt_ BK189 1, bt_ BK189 2, bt_ BK189 3, bt_ BK189 4, bt_ BK189 5, (hd_ HB hw191_0), (hd_ HB hw191_1), (hd_ HB hw191_2), (hd_ HB hw191_3), (hd_ HB hw191_4), (hd_ HB hw191_5)⟩ (fun hHeld => ?_)
              clear hK K
              refine norm_ (a' := ?_) ?_ ?_
              rotate_left
              ·show Act.put _ (some 33) _ = _
               simp only [Act.put, ls0_, ls1_, ls2_, i64_w, i32_w]
               rfl
              refine ps_ 3 34 (bs 20 4) HT_ ?_
              refine ps_ 4 35 (bs 20 5) HT_ ?_
              refine ps_ 5 36 (bs 20 6) HT_ ?_
              refine ps_ 6 37 (bs 20 7) HT_ ?_
              refine ps_ 7 38 (bs 20 8) HT_ ?_
              refine ps_ 8 39 (bs 20 9) HT_ ?_
              refine ps_ 10 41 (bm 20 1535) HT_ ?_
              refine ps_ 11 42 (bm 20 3583) HT_ ?_
              refine ps_ 15 46 (bm 20 36351) HT_ ?_
              refine tk_ 9 40 (bm 20 36863) HT_ HW_ hHeld ?_
              refine ps_ 12 43 (bm 20 40959) HT_ ?_
              refine ps_ 13 44 (bm 20 49151) HT_ ?_
              refine tk_ 14 45 (bs 20 16) HT_ HW_ hHeld ?_
              refine tk_ 16 47 (bs 20 17) HT_ HW_ hHeld ?_
              refine ps_ 17 48 (bs 20 18) HT_ ?_
              refine ps_ 18 49 (bs 20 19) HT_ ?_
              refine ps_ 19 50 (bs 20 20) HT_ ?_
              refine done_ (done_of HT_.out (by kernel_rfl)) ?_
              try go_wp2
              go_roundg k2
              case measure => have := HJ1.out; have := HK2.out; omega
              case rel => exact ⟨(wrap64 (x26_2 + 1)), (by first | rfl | (simp; done) | (simp [*]; done)), H', ⟨by have := HJ1.out; have := HK2.out; omega⟩, ⟨bk_ BK185⟩, ⟨bf_ HB⟩⟩
            ·rw [if_neg c29] at H
             exact absurd H (by simp)
           ·rw [if_neg c28] at H
            exact absurd H (by simp)
          ·rw [if_neg c26] at H
           have c26b0 : decide (0 < x26_2) = false := decide_eq_false c26
           clear c26
           have H' := Aside0.mk H
           clear H
           have p188 : 0 ≤ (x26_2 : Int) := od_
           have q188 : x26_2 < (l0_4.length : Int) := od_
           obtain ⟨ad188, e188, hx188_0, hx188_1, hx188_2, hx188_3, hx188_4, hx188_5⟩ := at_T38 HR0_4.out x26_2 p188 q188
           cases e188
           replace hx188_0 := hb_ HB hx188_0
           replace hx188_1 := hb_ HB hx188_1
           replace hx188_2 := hb_ HB hx188_2
           replace hx188_3 := hb_ HB hx188_3
           replace hx188_4 := hb_ HB hx188_4
           replace hx188_5 := hb_ HB hx188_5
           replace p188 := eq_true p188
           replace q188 := eq_true q188
           try go_wp2_with (first | ((with_reducible refine gd_ 4 rfl ?_); (try (refine gate_guard (by rfl) ?_; dsimp only)); refine bv_ 4 #[.int .i64 0, .int .i64 0, .bool false, .int .i64 0, .int .i64 0, .int .i64 0] 38 ?_; intro gb189 hg w43 hbox hb; have BK189 := Aside0.mk (hbox); have GW189 := gw_ HB hg; have GE189 := gw_ HB hg; replace HB := Aside0.mk (below_step (bf_ HB) hb); have NB185_189 := nl_ BK185 hg; have NB189_185 := ng_ BK185 hg; replace BK185 := bb_ BK185 hb; clear hb hbox hg; have hnb44 := NB189_185.out; have hnc44 := NB185_189.out; obtain ⟨hcz45_0, hcz45_1, hcz45_2, hcz45_3, hcz45_4, hcz45_5, hfz45_0, hfz45_1, hfz45_2, hfz45_3, hfz45_4, hfz45_5⟩ := bz6_ BK189))
           generalize hW_ : ((((((w43.setCell ⟨gb189, 0, none⟩ (.int .i64 ((rd_T38 l0_4 x26_2).f0))).setCell ⟨gb189, 1, none⟩ (.int .i64 ((rd_T38 l0_4 x26_2).f1))).setCell ⟨gb189, 2, none⟩ (.bool ((rd_T38 l0_4 x26_2).f2))).setCell ⟨gb189, 3, none⟩ (.int .i64 ((rd_T38 l0_4 x26_2).f3.f0))).setCell ⟨gb189, 4, none⟩ (.int .i64 ((rd_T38 l0_4 x26_2).f3.f1))).setCell ⟨gb189, 5, none⟩ (.int .i64 ((rd_T38 l0_4 x26_2).f3.f2))) = w46
           replace BK185 := fc6_ hW_ BK185 NB185_189
           replace BK189 : Aside0 (w46.heap[gb189]? = some (.cells #[.int .i64 ((rd_T38 l0_4 x26_2).f0), .int .i64 ((rd_T38 l0_4 x26_2).f1), .bool ((rd_T38 l0_4 x26_2).f2), .int .i64 ((rd_T38 l0_4 x26_2).f3.f0), .int .i64 ((rd_T38 l0_4 x26_2).f3.f1), .int .i64 ((rd_T38 l0_4 x26_2).f3.f2)] 38 (0, 0))) := pc6_ hW_ BK189
           replace HB : Aside0 (Below w.heap.size w w46) := ⟨by cases hW_; exact bf_ HB⟩
           clear hW_; replace BK185 := Aside0.mk (blk_drew BK185.out); replace BK189 := Aside0.mk (blk_drew BK189.out); replace HB := Aside0.mk (below_drew1 HB.out)
           refine start_ (n := 20) (S := fun w' => cw_ w' gb185 0 (.int .i64 a0_0) ∧ cw_ w' gb185 1 (.int .i64 a0_1) ∧ cw_ w' gb185 2 (.int .i64 a0_2) ∧ cw_ w' gb185 3 (.int .i64 a0_3) ∧ cw_ w' gb185 4 (.slice (some ad188) l0_4.length c0_4) ∧ cw_ w' gb189 0 (.int .i64 ((rd_T38 l0_4 x26_2).f0)) ∧ cw_ w' gb189 1 (.int .i64 ((rd_T38 l0_4 x26_2).f1)) ∧ cw_ w' gb189 2 (.bool ((rd_T38 l0_4 x26_2).f2)) ∧ cw_ w' gb189 3 (.int .i64 ((rd_T38 l0_4 x26_2).f3.f0)) ∧ cw_ w' gb189 4 (.int .i64 ((rd_T38 l0_4 x26_2).f3.f1)) ∧ cw_ w' gb189 5 (.int .i64 ((rd_T38 l0_4 x26_2).f3.f2))) (ds := []) (bs 20 0) (by kernel_rfl) rfl rfl ⟨bt_ BK185 0, bt_ BK185 1, bt_ BK185 2, bt_ BK185 3, bt_ BK185 4, bt_ BK189 0, bt_ BK189 1, bt_ BK189 2, bt_ BK189 3, bt_ BK189 4, bt_ BK189 5⟩ (fun hHeld => ?_); refine with_tabW impl_FairOk.tab6 impl_FairOk.bits6 (fun HT_ HW_ => ?_)
           generalize w46.drew = w47 at BK185 BK189 HB hHeld ⊢
           refine tk_ 0 31 (bs 20 1) HT_ HW_ hHeld ?_
           refine tk_ 1 32 (bs 20 2) HT_ HW_ hHeld ?_
           refine on_ 2 (some 33) (bs 20 3) HT_ (fun K hK => ?_)
           refine gs_ Try.func53 #[.agg #[.int .i64 a0_0, .int .i64 a0_1, .int .i64 a0_2, .int .i64 a0_3, .slice (some ad188) l0_4.length c0_4], .agg #[.int .i64 ((rd_T38 l0_4 x26_2).f0), .int .i64 ((rd_T38 l0_4 x26_2).f1), .bool ((rd_T38 l0_4 x26_2).f2), .int .i64 ((rd_T38 l0_4 x26_2).f3.f0), .int .i64 ((rd_T38 l0_4 x26_2).f3.f1), .int .i64 ((rd_T38 l0_4 x26_2).f3.f2)]] ?_
           with_reducible refine (impl_Fair_kidOk.calls a0_0 a0_1 a0_2 a0_3 _ _ l0_4 ((rd_T38 l0_4 x26_2).f0) ((rd_T38 l0_4 x26_2).f1) ((rd_T38 l0_4 x26_2).f2) ((rd_T38 l0_4 x26_2).f3.f0) ((rd_T38 l0_4 x26_2).f3.f1) ((rd_T38 l0_4 x26_2).f3.f2) true _ ?side1 ?side2 A24.out).mono ?_
           (case side1 => repeat (first | exact (Kd.C_below HR0_4.out HB.out) | (with_reducible refine Kd.C_alloc ?_ _) | (with_reducible refine Kd.C_drewN ?_ _) | (with_reducible refine Kd.C_drew ?_)))
           (case side2 => exact HC0_4.out)
           rintro e w48 ⟨rfl, hb⟩
           refine ⟨_, rfl, ?_⟩
           replace BK185 := bb_ BK185 hb; replace BK189 := bb_ BK189 hb; replace HB := Aside0.mk (below_step (bf_ HB) hb); (try clear hb); (try clear hb2); (try clear hk); (try clear hi)
           refine hK.out _ _ ⟨bt_ BK185 0, bt_ BK185 1, bt_ BK185 2, bt_ BK185 3, bt_ BK185 4, bt_ BK189 0, bt_ BK189 1, bt_ BK189 2, bt_ BK189 3, bt_ BK189 4, bt_ BK189 5⟩ (fun hHeld => ?_)
           clear hK K
           refine norm_ (a' := ?_) ?_ ?_
           rotate_left
           ·show Act.put _ (some 33) _ = _
            simp only [Act.put, ls0_, ls1_, ls2_, i64_w, i32_w]
            rfl
           refine ps_ 3 34 (bs 20 4) HT_ ?_
           refine ps_ 4 35 (bs 20 5) HT_ ?_
           refine ps_ 5 36 (bs 20 6) HT_ ?_
           refine ps_ 6 37 (bs 20 7) HT_ ?_
           refine ps_ 7 38 (bs 20 8) HT_ ?_
           refine pu_ 8 39 (bs 20 9) HT_ ?_
           refine pu_ 9 40 (bs 20 10) HT_ ?_
           refine pu_ 10 41 (bs 20 11) HT_ ?_
           refine pu_ 11 42 (bs 20 12) HT_ ?_
           refine pu_ 12 43 (bs 20 13) HT_ ?_
           refine pu_ 13 44 (bs 20 14) HT_ ?_
           refine pu_ 14 45 (bs 20 15) HT_ ?_
           refine pu_ 15 46 (bs 20 16) HT_ ?_
           refine pu_ 16 47 (bs 20 17) HT_ ?_
           refine pu_ 17 48 (bs 20 18) HT_ ?_
           refine ps_ 18 49 (bs 20 19) HT_ ?_
           refine ps_ 19 50 (bs 20 20) HT_ ?_
           refine done_ (done_of HT_.out (by kernel_rfl)) ?_
           try go_wp2
           go_roundg k2
           case measure => have := HJ1.out; have := HK2.out; omega
           case rel => exact ⟨(wrap64 (x26_2 + 1)), (by first | rfl | (simp; done) | (simp [*]; done)), H', ⟨by have := HJ1.out; have := HK2.out; omega⟩, ⟨bk_ BK185⟩, ⟨bf_ HB⟩⟩
         ·replace c25 := Bool.eq_false_iff.mpr c25
          subst c25
          have H1 : (some false) = some r := by rw [if_neg (show ¬ (false = true) by decide)] at H; exact H
          clear H
          have H := H1
          clear H1
          obtain rfl := Option.some.inj H
          have p188 : 0 ≤ (x26_2 : Int) := od_
          have q188 : x26_2 < (l0_4.length : Int) := od_
          obtain ⟨ad188, e188, hx188_0, hx188_1, hx188_2, hx188_3, hx188_4, hx188_5⟩ := at_T38 HR0_4.out x26_2 p188 q188
          cases e188
          replace hx188_0 := hb_ HB hx188_0
          replace hx188_1 := hb_ HB hx188_1
          replace hx188_2 := hb_ HB hx188_2
          replace hx188_3 := hb_ HB hx188_3
          replace hx188_4 := hb_ HB hx188_4
          replace hx188_5 := hb_ HB hx188_5
          replace p188 := eq_true p188
          replace q188 := eq_true q188
          try go_wp2_with (first | ((with_reducible refine gd_ 4 rfl ?_); (try (refine gate_guard (by rfl) ?_; dsimp only)); refine bv_ 4 #[.int .i64 0, .int .i64 0, .bool false, .int .i64 0, .int .i64 0, .int .i64 0] 38 ?_; intro gb189 hg w49 hbox hb; have BK189 := Aside0.mk (hbox); have GW189 := gw_ HB hg; have GE189 := gw_ HB hg; replace HB := Aside0.mk (below_step (bf_ HB) hb); have NB185_189 := nl_ BK185 hg; have NB189_185 := ng_ BK185 hg; replace BK185 := bb_ BK185 hb; clear hb hbox hg; have hnb50 := NB189_185.out; have hnc50 := NB185_189.out; obtain ⟨hcz51_0, hcz51_1, hcz51_2, hcz51_3, hcz51_4, hcz51_5, hfz51_0, hfz51_1, hfz51_2, hfz51_3, hfz51_4, hfz51_5⟩ := bz6_ BK189))
          generalize hW_ : ((((((w49.setCell ⟨gb189, 0, none⟩ (.int .i64 ((rd_T38 l0_4 x26_2).f0))).setCell ⟨gb189, 1, none⟩ (.int .i64 ((rd_T38 l0_4 x26_2).f1))).setCell ⟨gb189, 2, none⟩ (.bool ((rd_T38 l0_4 x26_2).f2))).setCell ⟨gb189, 3, none⟩ (.int .i64 ((rd_T38 l0_4 x26_2).f3.f0))).setCell ⟨gb189, 4, none⟩ (.int .i64 ((rd_T38 l0_4 x26_2).f3.f1))).setCell ⟨gb189, 5, none⟩ (.int .i64 ((rd_T38 l0_4 x26_2).f3.f2))) = w52
          replace BK185 := fc6_ hW_ BK185 NB185_189
          replace BK189 : Aside0 (w52.heap[gb189]? = some (.cells #[.int .i64 ((rd_T38 l0_4 x26_2).f0), .int .i64 ((rd_T38 l0_4 x26_2).f1), .bool ((rd_T38 l0_4 x26_2).f2), .int .i64 ((rd_T38 l0_4 x26_2).f3.f0), .int .i64 ((rd_T38 l0_4 x26_2).f3.f1), .int .i64 ((rd_T38 l0_4 x26_2).f3.f2)] 38 (0, 0))) := pc6_ hW_ BK189
          replace HB : Aside0 (Below w.heap.size w w52) := ⟨by cases hW_; exact bf_ HB⟩
          clear hW_; replace BK185 := Aside0.mk (blk_drew BK185.out); replace BK189 := Aside0.mk (blk_drew BK189.out); replace HB := Aside0.mk (below_drew1 HB.out)
          refine start_ (n := 20) (S := fun w' => cw_ w' gb185 0 (.int .i64 a0_0) ∧ cw_ w' gb185 1 (.int .i64 a0_1) ∧ cw_ w' gb185 2 (.int .i64 a0_2) ∧ cw_ w' gb185 3 (.int .i64 a0_3) ∧ cw_ w' gb185 4 (.slice (some ad188) l0_4.length c0_4) ∧ cw_ w' gb189 0 (.int .i64 ((rd_T38 l0_4 x26_2).f0)) ∧ cw_ w' gb189 1 (.int .i64 ((rd_T38 l0_4 x26_2).f1)) ∧ cw_ w' gb189 2 (.bool ((rd_T38 l0_4 x26_2).f2)) ∧ cw_ w' gb189 3 (.int .i64 ((rd_T38 l0_4 x26_2).f3.f0)) ∧ cw_ w' gb189 4 (.int .i64 ((rd_T38 l0_4 x26_2).f3.f1)) ∧ cw_ w' gb189 5 (.int .i64 ((rd_T38 l0_4 x26_2).f3.f2))) (ds := []) (bs 20 0) (by kernel_rfl) rfl rfl ⟨bt_ BK185 0, bt_ BK185 1, bt_ BK185 2, bt_ BK185 3, bt_ BK185 4, bt_ BK189 0, bt_ BK189 1, bt_ BK189 2, bt_ BK189 3, bt_ BK189 4, bt_ BK189 5⟩ (fun hHeld => ?_); refine with_tabW impl_FairOk.tab6 impl_FairOk.bits6 (fun HT_ HW_ => ?_)
          generalize w52.drew = w53 at BK185 BK189 HB hHeld ⊢
          refine tk_ 0 31 (bs 20 1) HT_ HW_ hHeld ?_
          refine tk_ 1 32 (bs 20 2) HT_ HW_ hHeld ?_
          refine on_ 2 (some 33) (bs 20 3) HT_ (fun K hK => ?_)
          refine gs_ Try.func53 #[.agg #[.int .i64 a0_0, .int .i64 a0_1, .int .i64 a0_2, .int .i64 a0_3, .slice (some ad188) l0_4.length c0_4], .agg #[.int .i64 ((rd_T38 l0_4 x26_2).f0), .int .i64 ((rd_T38 l0_4 x26_2).f1), .bool ((rd_T38 l0_4 x26_2).f2), .int .i64 ((rd_T38 l0_4 x26_2).f3.f0), .int .i64 ((rd_T38 l0_4 x26_2).f3.f1), .int .i64 ((rd_T38 l0_4 x26_2).f3.f2)]] ?_
          with_reducible refine (impl_Fair_kidOk.calls a0_0 a0_1 a0_2 a0_3 _ _ l0_4 ((rd_T38 l0_4 x26_2).f0) ((rd_T38 l0_4 x26_2).f1) ((rd_T38 l0_4 x26_2).f2) ((rd_T38 l0_4 x26_2).f3.f0) ((rd_T38 l0_4 x26_2).f3.f1) ((rd_T38 l0_4 x26_2).f3.f2) false _ ?side1 ?side2 A24.out).mono ?_
          (case side1 => repeat (first | exact (Kd.C_below HR0_4.out HB.out) | (with_reducible refine Kd.C_alloc ?_ _) | (with_reducible refine Kd.C_drewN ?_ _) | (with_reducible refine Kd.C_drew ?_)))
          (case side2 => exact HC0_4.out)
          rintro e w54 ⟨rfl, hb⟩
          refine ⟨_, rfl, ?_⟩
          replace BK185 := bb_ BK185 hb; replace BK189 := bb_ BK189 hb; replace HB := Aside0.mk (below_step (bf_ HB) hb); (try clear hb); (try clear hb2); (try clear hk); (try clear hi)
          refine hK.out _ _ ⟨bt_ BK185 0, bt_ BK185 1, bt_ BK185 2, bt_ BK185 3, bt_ BK185 4, bt_ BK189 0, bt_ BK189 1, bt_ BK189 2, bt_ BK189 3, bt_ BK189 4, bt_ BK189 5⟩ (fun hHeld => ?_)
          clear hK K
          refine norm_ (a' := ?_) ?_ ?_
          rotate_left
          ·show Act.put _ (some 33) _ = _
           simp only [Act.put, ls0_, ls1_, ls2_, i64_w, i32_w]
           rfl
          refine ps_ 3 34 (bs 20 4) HT_ ?_
          refine ps_ 4 35 (bs 20 5) HT_ ?_
          refine pu_ 5 36 (bs 20 6) HT_ ?_
          refine pu_ 6 37 (bs 20 7) HT_ ?_
          refine pu_ 7 38 (bs 20 8) HT_ ?_
          refine pu_ 8 39 (bs 20 9) HT_ ?_
          refine pu_ 9 40 (bs 20 10) HT_ ?_
          refine pu_ 10 41 (bs 20 11) HT_ ?_
          refine pu_ 11 42 (bs 20 12) HT_ ?_
          refine pu_ 12 43 (bs 20 13) HT_ ?_
          refine pu_ 13 44 (bs 20 14) HT_ ?_
          refine pu_ 14 45 (bs 20 15) HT_ ?_
          refine pu_ 15 46 (bs 20 16) HT_ ?_
          refine pu_ 16 47 (bs 20 17) HT_ ?_
          refine pu_ 17 48 (bs 20 18) HT_ ?_
          refine pu_ 18 49 (bs 20 19) HT_ ?_
          refine ps_ 19 50 (bs 20 20) HT_ ?_
          refine done_ (done_of HT_.out (by kernel_rfl)) ?_
          try go_wp2
          go_ret
          exact ⟨by first | rfl | (simp [errW_none, errW_some] <;> rfl) | (simp [*, errW_none, errW_some] <;> rfl), bf_ HB⟩
        ·rw [if_neg c23] at H
         exact absurd H (by simp)
       ·rw [if_neg c22] at H
        exact absurd H (by simp)
      ·rw [if_neg c21] at H
       have c21b0 : decide (x26_2 < (l0_4.length : Int)) = false := decide_eq_false c21
       clear c21
       obtain rfl := Option.some.inj H
       go_wp2
       go_ret
       exact ⟨by first | rfl | (simp [errW_none, errW_some] <;> rfl) | (simp [*, errW_none, errW_some] <;> rfl), bf_ HB⟩

end Go.Proofs.Ytljhaoiopokmfaa.PFnExactFairServe
