-- printed by a program of this session (wip/printx) out of the translation; Lean checks it
import Derived.Test.YtppmbdfbhahngaaVFnExactFairJoin
import Derived.Test.YtppmbdfbhahngaaPFnExactFairJoinx0
import Derived.Test.YtppmbdfbhahngaaPFnExactFairJoinx2
import Derived.Test.YtppmbdfbhahngaaPFnExactFairJoinx3
namespace Go.Proofs.Ytppmbdfbhahngaa.PFnExactFairJoin
open Go.RowKit Go.Proofs.YtppmbdfbhahngaaW.PrintWords Go.Proofs.YtppmbdfbhahngaaW.PrintLast Go.Proofs.YtppmbdfbhahngaaW.PrintMore
attribute [local go_sem] max2_int min2_int max_two min_two max_three min_three max_four min_four   -- for this text's walks alone
set_option linter.unusedVariables false
set_option linter.unusedSimpArgs false

/-! ### spec_FairOk: function 18 -/
mutual
def spec_FairOk.j0 : Nat → Bool → Int → Int → Int → Int → List (S46) → Option (Bool)
  | 0, _, _, _, _, _, _ => none
  | k + 1, x22, x170000, x170001, x170002, x170003, x170004 => if x22 = true then (some false) else (spec_FairOk.l0 k 0 x170000 x170001 x170002 x170003 x170004)
def spec_FairOk.l0 : Nat → Int → Int → Int → Int → Int → List (S46) → Option (Bool)
  | 0, _, _, _, _, _, _ => none
  | k + 1, x3, x170000, x170001, x170002, x170003, x170004 => if x3 < (x170004.length : Int) then (if 0 ≤ x3 then (if ((rd_T46 x170004 x3).f0) < 0 then (spec_FairOk.j2 k x3 true x170000 x170001 x170002 x170003 x170004 ((rd_T46 x170004 x3).f0) ((rd_T46 x170004 x3).f1) ((rd_T46 x170004 x3).f2) ((rd_T46 x170004 x3).f3.f0) ((rd_T46 x170004 x3).f3.f1) ((rd_T46 x170004 x3).f3.f2)) else (if ((rd_T46 x170004 x3).f0) > 9999 then (spec_FairOk.j2 k x3 true x170000 x170001 x170002 x170003 x170004 ((rd_T46 x170004 x3).f0) ((rd_T46 x170004 x3).f1) ((rd_T46 x170004 x3).f2) ((rd_T46 x170004 x3).f3.f0) ((rd_T46 x170004 x3).f3.f1) ((rd_T46 x170004 x3).f3.f2)) else (if x3 > 0 then (if 0 ≤ (wrap64 (x3 - 1)) then (if (wrap64 (x3 - 1)) < (x170004.length : Int) then (if ((rd_T46 x170004 (wrap64 (x3 - 1))).f0) ≥ ((rd_T46 x170004 x3).f0) then (spec_FairOk.j2 k x3 true x170000 x170001 x170002 x170003 x170004 ((rd_T46 x170004 x3).f0) ((rd_T46 x170004 x3).f1) ((rd_T46 x170004 x3).f2) ((rd_T46 x170004 x3).f3.f0) ((rd_T46 x170004 x3).f3.f1) ((rd_T46 x170004 x3).f3.f2)) else ((spec_Stride.f ((rd_T46 x170004 x3).f1)).bind fun t175 => (if t175 = 0 then (spec_FairOk.j2 k x3 true x170000 x170001 x170002 x170003 x170004 ((rd_T46 x170004 x3).f0) ((rd_T46 x170004 x3).f1) ((rd_T46 x170004 x3).f2) ((rd_T46 x170004 x3).f3.f0) ((rd_T46 x170004 x3).f3.f1) ((rd_T46 x170004 x3).f3.f2)) else ((spec_Narrow.f ((rd_T46 x170004 x3).f3.f0) ((rd_T46 x170004 x3).f3.f1) ((rd_T46 x170004 x3).f3.f2) x170000).bind fun t176 => (spec_FairOk.j2 k x3 (!t176) x170000 x170001 x170002 x170003 x170004 ((rd_T46 x170004 x3).f0) ((rd_T46 x170004 x3).f1) ((rd_T46 x170004 x3).f2) ((rd_T46 x170004 x3).f3.f0) ((rd_T46 x170004 x3).f3.f1) ((rd_T46 x170004 x3).f3.f2)))))) else (none)) else (none)) else ((spec_Stride.f ((rd_T46 x170004 x3).f1)).bind fun t177 => (if t177 = 0 then (spec_FairOk.j2 k x3 true x170000 x170001 x170002 x170003 x170004 ((rd_T46 x170004 x3).f0) ((rd_T46 x170004 x3).f1) ((rd_T46 x170004 x3).f2) ((rd_T46 x170004 x3).f3.f0) ((rd_T46 x170004 x3).f3.f1) ((rd_T46 x170004 x3).f3.f2)) else ((spec_Narrow.f ((rd_T46 x170004 x3).f3.f0) ((rd_T46 x170004 x3).f3.f1) ((rd_T46 x170004 x3).f3.f2) x170000).bind fun t178 => (spec_FairOk.j2 k x3 (!t178) x170000 x170001 x170002 x170003 x170004 ((rd_T46 x170004 x3).f0) ((rd_T46 x170004 x3).f1) ((rd_T46 x170004 x3).f2) ((rd_T46 x170004 x3).f3.f0) ((rd_T46 x170004 x3).f3.f1) ((rd_T46 x170004 x3).f3.f2)))))))) else (none)) else (some true)
def spec_FairOk.j2 : Nat → Int → Bool → Int → Int → Int → Int → List (S46) → Int → Int → Bool → Int → Int → Int → Option (Bool)
  | 0, _, _, _, _, _, _, _, _, _, _, _, _, _ => none
  | k + 1, x3, x72, x170000, x170001, x170002, x170003, x170004, x174000, x174001, x174002, x174003, x174004, x174005 => if x72 = true then (some false) else ((spec_VecTop.f x174003 x174004 x174005).bind fun t179 => ((spec_VecTop.f x170001 x170002 x170003).bind fun t180 => ((spec_Stride.f x174001).bind fun t181 => (if t179 > (wrap64 (t180 + (wrap64 (t181 * 2000)))) then (some false) else (if x174002 = true then ((spec_VecTop.f x174003 x174004 x174005).bind fun t182 => ((spec_VecTop.f x170001 x170002 x170003).bind fun t183 => (if t182 < t183 then (some false) else (spec_FairOk.l0 k (wrap64 (x3 + 1)) x170000 x170001 x170002 x170003 x170004)))) else (spec_FairOk.l0 k (wrap64 (x3 + 1)) x170000 x170001 x170002 x170003 x170004))))))
end
def spec_FairOk.f (k : Nat) (a0_0 : Int) (a0_1 : Int) (a0_2 : Int) (a0_3 : Int) (l0_4 : List (S46)) : Option (Bool) := (spec_Narrow.f a0_1 a0_2 a0_3 a0_0).bind fun t170 => (if t170 = true then ((spec_VecTop.f a0_1 a0_2 a0_3).bind fun t171 => (if t171 > 100000000000 then (spec_FairOk.j0 k true a0_0 a0_1 a0_2 a0_3 l0_4) else (spec_FairOk.j0 k (decide ((l0_4.length : Int) > 48)) a0_0 a0_1 a0_2 a0_3 l0_4))) else (spec_FairOk.j0 k true a0_0 a0_1 a0_2 a0_3 l0_4))
theorem spec_FairOk.mono_l : ∀ k, (∀ y0 y1 y2 y3 y4 y5, LeO (spec_FairOk.j0 k y0 y1 y2 y3 y4 y5) (spec_FairOk.j0 (k + 1) y0 y1 y2 y3 y4 y5)) ∧ (∀ y0 y1 y2 y3 y4 y5, LeO (spec_FairOk.l0 k y0 y1 y2 y3 y4 y5) (spec_FairOk.l0 (k + 1) y0 y1 y2 y3 y4 y5)) ∧ (∀ y0 y1 y2 y3 y4 y5 y6 y7 y8 y9 y10 y11 y12, LeO (spec_FairOk.j2 k y0 y1 y2 y3 y4 y5 y6 y7 y8 y9 y10 y11 y12) (spec_FairOk.j2 (k + 1) y0 y1 y2 y3 y4 y5 y6 y7 y8 y9 y10 y11 y12))
 | 0 => ⟨fun _ _ _ _ _ _ r h => by simp [spec_FairOk.j0] at h, fun _ _ _ _ _ _ r h => by simp [spec_FairOk.l0] at h, fun _ _ _ _ _ _ _ _ _ _ _ _ _ r h => by simp [spec_FairOk.j2] at h⟩
 | k + 1 => by
  obtain ⟨ih0, ih1, ih2⟩ := spec_FairOk.mono_l k
  refine ⟨?_, ?_, ?_⟩ <;> intros <;> (first | unfold spec_FairOk.j0 | unfold spec_FairOk.l0 | unfold spec_FairOk.j2) <;> repeat' (first | (with_reducible exact ih0 ..) | (with_reducible exact ih1 ..) | (with_reducible exact ih2 ..) | (with_reducible exact LeO.refl _) | (with_reducible exact LeO.none _) | (with_reducible refine LeO.ite ?_ ?_) | (with_reducible refine LeO.bind ?_ (fun _ => ?_)) | exact ih0 .. | exact ih1 .. | exact ih2 .. | exact LeO.none _ | refine LeO.ite ?_ ?_ | refine LeO.bind ?_ (fun _ => ?_))
theorem spec_FairOk.mono : ∀ a0 a1 a2 a3 a4 k, LeO (spec_FairOk.f k a0 a1 a2 a3 a4) (spec_FairOk.f (k + 1) a0 a1 a2 a3 a4) := by
 intro a0 a1 a2 a3 a4 k
 obtain ⟨ih0, ih1, ih2⟩ := spec_FairOk.mono_l k
 unfold spec_FairOk.f
 repeat' (first | (with_reducible exact ih0 ..) | (with_reducible exact ih1 ..) | (with_reducible exact ih2 ..) | (with_reducible exact LeO.refl _) | (with_reducible exact LeO.none _) | (with_reducible refine LeO.ite ?_ ?_) | (with_reducible refine LeO.bind ?_ (fun _ => ?_)) | exact ih0 .. | exact ih1 .. | exact ih2 .. | exact LeO.none _ | refine LeO.ite ?_ ?_ | refine LeO.bind ?_ (fun _ => ?_))
def spec_FairOk.T7 : Bool × List (List Nat × List Nat) := (true, [([], []), ([0], [0]), ([1], [1]), ([2], [2]), ([3], [3]), ([4, 3], [3, 4]), ([5, 3], [3, 5]), ([3, 6], [3, 6]), ([7, 3], [7]), ([8], [8]), ([9, 8], [8, 9]), ([10, 8, 8], [8, 10]), ([11], [11]), ([12, 11], [11, 12]), ([11], [11]), ([14, 11], [11, 14]), ([13, 15, 11], [11, 13, 15]), ([16, 11], [11, 16]), ([17, 11], [11, 17]), ([11], [11]), ([19, 11], [11, 19]), ([18, 20, 11], [11, 18, 20]), ([11, 21, 8], [8, 11, 21]), ([8, 22], [8, 22]), ([23, 11], [23]), ([24], [24]), ([25, 24], [24, 25]), ([26, 24, 24], [24, 26]), ([27, 24], [24, 27]), ([24, 28], [24, 28]), ([29, 27], [29]), ([30], [30]), ([31, 30], [30, 31]), ([30], [30]), ([33, 30], [30, 33]), ([32, 34, 30, 30], [30, 32, 34]), ([35, 30], [30, 35]), ([30, 36], [30, 36])])
def spec_FairOk.B7 : List Nat := [0, 1, 3, 7, 15, 31, 63, 127, 255, 511, 1023, 2047, 4095, 8191, 4095, 20479, 65535, 131071, 262143, 4095, 528383, 2097151, 4194303, 8388607, 16777215, 33554431, 67108863, 134217727, 268435455, 536870911, 1073741823, 2147483647, 4294967295, 2147483647, 10737418239, 34359738367, 68719476735, 137438953471]
theorem spec_FairOk.tab7 : rtab .any (opsOf Try.f18 7) = spec_FairOk.T7 := by kernel_rfl
theorem spec_FairOk.bits7 : waitsOk spec_FairOk.T7.2 spec_FairOk.B7 = true := by kernel_rfl
def spec_FairOk.T9 : Bool × List (List Nat × List Nat) := (true, [([], []), ([0], [0]), ([1], [1]), ([], []), ([3], [3]), ([4, 2], [4]), ([], []), ([6], [6]), ([7, 5], [7]), ([8], [8]), ([5, 9], [5, 9]), ([2, 10], [2, 10]), ([11, 8], [11]), ([12], [12]), ([13, 12], [12, 13]), ([14, 12, 12], [12, 14]), ([15], [15]), ([16, 15], [15, 16]), ([17, 15, 15], [15, 17]), ([15], [15]), ([19, 15], [15, 19]), ([20, 18, 15], [15, 20]), ([18, 21, 15], [15, 18, 21]), ([15, 22, 12], [12, 15, 22]), ([12, 23], [12, 23])])
def spec_FairOk.B9 : List Nat := [0, 1, 3, 0, 8, 31, 0, 64, 255, 511, 1023, 2047, 4095, 8191, 16383, 32767, 65535, 131071, 262143, 65535, 589823, 2097151, 4194303, 8388607, 16777215]
theorem spec_FairOk.tab9 : rtab .any (opsOf Try.f18 9) = spec_FairOk.T9 := by kernel_rfl
theorem spec_FairOk.bits9 : waitsOk spec_FairOk.T9.2 spec_FairOk.B9 = true := by kernel_rfl
set_option maxHeartbeats 8000000 in
set_option maxRecDepth 100000 in
theorem spec_FairOk.calls (k : Nat) (a0_0 : Int) (a0_1 : Int) (a0_2 : Int) (a0_3 : Int) (A0_4 : Option Addr) (c0_4 : Nat) (l0_4 : List (S46)) (r : Bool) (w : World) (hr0_4 : Kd.C k46 w A0_4 l0_4.length l0_4) (hc0_4 : l0_4.length ≤ c0_4) (h : spec_FairOk.f k a0_0 a0_1 a0_2 a0_3 l0_4 = some r) :
  Calls Try.prog 18 #[.agg #[.int .i64 a0_0, .int .i64 a0_1, .int .i64 a0_2, .int .i64 a0_3, .slice A0_4 l0_4.length c0_4]] w fun e w' => e = .returned (.bool r) ∧ Below w.heap.size w w' := by
 have hu31 := Try.underlying31; have hu28 := Try.underlying28; have hu46 := Try.underlying46
 have HR0_4 := Aside0.mk hr0_4
 have HC0_4 := Aside0.mk hc0_4
 clear hr0_4 hc0_4; have HB := Aside0.mk (Below.refl w.heap.size w)
 have H := h
 clear h
 unfold spec_FairOk.f at H
 have HC2 := Aside0.mk H
 clear H
 go_enter Try.func18, Try.ntmps18
 go_upto_region 1 with (first | ((with_reducible refine gd_ 1 rfl ?_); (try (refine gate_guard (by rfl) ?_; dsimp only)); refine bv_ 1 #[.int .i64 a0_0, .int .i64 a0_1, .int .i64 a0_2, .int .i64 a0_3, .slice A0_4 l0_4.length c0_4] 31 ?_; intro gb169 hg w3 hbox hb; have BK169 := Aside0.mk (hbox); have GW169 := gw_ HB hg; have GE169 := gw_ HB hg; replace HB := Aside0.mk (below_step (be_ HB) hb); clear hb hbox hg))
 (try simp only [Act.put, ls0_, ls1_, ls2_])
 go_cut [22] (fun v22 wc => ∃ (kq : Nat) (x22_1 : Bool), v22 = .bool x22_1 ∧ Aside0 (spec_FairOk.j0 kq x22_1 a0_0 a0_1 a0_2 a0_3 l0_4 = some r) ∧ Aside0 (kq ≤ k) ∧ Aside0 (wc.heap[gb169]? = some (.cells #[.int .i64 a0_0, .int .i64 a0_1, .int .i64 a0_2, .int .i64 a0_3, (.slice A0_4 l0_4.length c0_4)] 31 (0, 0))) ∧ Aside0 (Below w.heap.size w wc))
 case first =>
  have H := HC2.out
  clear HC2
  replace H := Option.bind_eq_some_iff.mp H
  obtain ⟨t170, A40, H⟩ := H
  have A4 := Aside0.mk A40
  clear A40
  by_cases c5 : t170 = true
  ·subst c5
   rw [if_pos rfl] at H
   replace H := Option.bind_eq_some_iff.mp H
   obtain ⟨t171, A60, H⟩ := H
   have A6 := Aside0.mk A60
   clear A60
   by_cases c7 : t171 > 100000000000
   ·rw [if_pos c7] at H
    have c7b0 : decide (100000000000 < t171) = true := decide_eq_true c7
    clear c7
    (first | rw [c7b0] | (simp only [i64_w, i32_w]; rw [c7b0]) | skip)
    have H' := Aside0.mk H
    clear H; obtain ⟨hcz8_0, hcz8_1, hcz8_2, hcz8_3, hcz8_4, hfz8_0, hfz8_1, hfz8_2, hfz8_3, hfz8_4⟩ := bz5_ BK169
    go_wp2_with (first | ((with_reducible refine gc_ 49 rfl ?_); refine gl_ 9 Try.func49 #[.agg #[.int .i64 a0_1, .int .i64 a0_2, .int .i64 a0_3], .int .i64 a0_0] ?_; (with_reducible refine (spec_Narrow.calls a0_1 a0_2 a0_3 a0_0 true _ A4.out).mono ?_); rintro e w9 ⟨rfl, hb⟩; refine ⟨_, rfl, ?_⟩; replace BK169 := bb_ BK169 hb; replace HB := Aside0.mk (below_step (bf_ HB) hb); (try clear hb); (try clear hb2); (try clear hk); (try clear hi); obtain ⟨hcz10_0, hcz10_1, hcz10_2, hcz10_3, hcz10_4, hfz10_0, hfz10_1, hfz10_2, hfz10_3, hfz10_4⟩ := bz5_ BK169) | (go_at_call 23; (with_reducible refine (spec_VecTop.calls a0_1 a0_2 a0_3 t171 _ A6.out).mono ?_); rintro e w11 ⟨rfl, hb⟩; replace BK169 := bb_ BK169 hb; replace HB := Aside0.mk (below_step (bf_ HB) hb); (try clear hb); (try clear hb2); (try clear hk); (try clear hi)))
    go_meet
    case rel => exact ⟨_, (true), (by first | rfl | (simp; done) | (simp [*]; done)), H', ⟨by first | omega | exact Nat.le_refl _⟩, ⟨bk_ BK169⟩, ⟨bf_ HB⟩⟩
   ·rw [if_neg c7] at H
    have c7b0 : decide (100000000000 < t171) = false := decide_eq_false c7
    clear c7
    (first | rw [c7b0] | (simp only [i64_w, i32_w]; rw [c7b0]) | skip)
    have H' := Aside0.mk H
    clear H; obtain ⟨hcz12_0, hcz12_1, hcz12_2, hcz12_3, hcz12_4, hfz12_0, hfz12_1, hfz12_2, hfz12_3, hfz12_4⟩ := bz5_ BK169
    go_wp2_with (first | ((with_reducible refine gc_ 49 rfl ?_); refine gl_ 9 Try.func49 #[.agg #[.int .i64 a0_1, .int .i64 a0_2, .int .i64 a0_3], .int .i64 a0_0] ?_; (with_reducible refine (spec_Narrow.calls a0_1 a0_2 a0_3 a0_0 true _ A4.out).mono ?_); rintro e w13 ⟨rfl, hb⟩; refine ⟨_, rfl, ?_⟩; replace BK169 := bb_ BK169 hb; replace HB := Aside0.mk (below_step (bf_ HB) hb); (try clear hb); (try clear hb2); (try clear hk); (try clear hi); obtain ⟨hcz14_0, hcz14_1, hcz14_2, hcz14_3, hcz14_4, hfz14_0, hfz14_1, hfz14_2, hfz14_3, hfz14_4⟩ := bz5_ BK169) | (go_at_call 23; (with_reducible refine (spec_VecTop.calls a0_1 a0_2 a0_3 t171 _ A6.out).mono ?_); rintro e w15 ⟨rfl, hb⟩; replace BK169 := bb_ BK169 hb; replace HB := Aside0.mk (below_step (bf_ HB) hb); (try clear hb); (try clear hb2); (try clear hk); (try clear hi); obtain ⟨hcz16_0, hcz16_1, hcz16_2, hcz16_3, hcz16_4, hfz16_0, hfz16_1, hfz16_2, hfz16_3, hfz16_4⟩ := bz5_ BK169))
    go_meet
    case rel => exact ⟨_, (decide ((l0_4.length : Int) > 48)), (by first | rfl | (simp; done) | (simp [*]; done)), H', ⟨by first | omega | exact Nat.le_refl _⟩, ⟨bk_ BK169⟩, ⟨bf_ HB⟩⟩
  ·replace c5 := Bool.eq_false_iff.mpr c5
   subst c5
   rw [if_neg (show ¬ (false = true) by decide)] at H
   have H' := Aside0.mk H
   clear H; obtain ⟨hcz17_0, hcz17_1, hcz17_2, hcz17_3, hcz17_4, hfz17_0, hfz17_1, hfz17_2, hfz17_3, hfz17_4⟩ := bz5_ BK169
   go_wp2_with (first | ((with_reducible refine gc_ 49 rfl ?_); refine gl_ 9 Try.func49 #[.agg #[.int .i64 a0_1, .int .i64 a0_2, .int .i64 a0_3], .int .i64 a0_0] ?_; (with_reducible refine (spec_Narrow.calls a0_1 a0_2 a0_3 a0_0 false _ A4.out).mono ?_); rintro e w18 ⟨rfl, hb⟩; refine ⟨_, rfl, ?_⟩; replace BK169 := bb_ BK169 hb; replace HB := Aside0.mk (below_step (bf_ HB) hb); (try clear hb); (try clear hb2); (try clear hk); (try clear hi)))
   go_meet
   case rel => exact ⟨_, (true), (by first | rfl | (simp; done) | (simp [*]; done)), H', ⟨by first | omega | exact Nat.le_refl _⟩, ⟨bk_ BK169⟩, ⟨bf_ HB⟩⟩
 case rest =>
  clear HC2; (try clear c1); (try clear p2); (try clear c4); (try clear c5); (try clear c7); (try clear c7b0); (try clear c18); (try clear hcz10_0 hcz10_1 hcz10_2 hcz10_3 hcz10_4 hfz10_0 hfz10_1 hfz10_2 hfz10_3 hfz10_4); (try clear hcz12_0 hcz12_1 hcz12_2 hcz12_3 hcz12_4 hfz12_0 hfz12_1 hfz12_2 hfz12_3 hfz12_4); (try clear hcz14_0 hcz14_1 hcz14_2 hcz14_3 hcz14_4 hfz14_0 hfz14_1 hfz14_2 hfz14_3 hfz14_4); (try clear hcz16_0 hcz16_1 hcz16_2 hcz16_3 hcz16_4 hfz16_0 hfz16_1 hfz16_2 hfz16_3 hfz16_4); (try clear hcz17_0 hcz17_1 hcz17_2 hcz17_3 hcz17_4 hfz17_0 hfz17_1 hfz17_2 hfz17_3 hfz17_4); (try clear hcz8_0 hcz8_1 hcz8_2 hcz8_3 hcz8_4 hfz8_0 hfz8_1 hfz8_2 hfz8_3 hfz8_4)
  obtain ⟨kq, x22_1, rfl, HA, HJ1, BK169, HB⟩ := hcut
  cases kq with
  | zero => exact absurd HA.out (by simp [spec_FairOk.j0])
  | succ kj1 =>
   have H := HA.out
   clear HA
   simp only [spec_FairOk.j0] at H
   by_cases c19 : x22_1 = true
   ·subst c19
    rw [if_pos rfl] at H
    obtain rfl := Option.some.inj H
    go_wp2
    go_ret
    exact ⟨by first | rfl | (simp [errW_none, errW_some] <;> rfl) | (simp [*, errW_none, errW_some] <;> rfl), bf_ HB⟩
   ·replace c19 := Bool.eq_false_iff.mpr c19
    subst c19
    rw [if_neg (show ¬ (false = true) by decide)] at H
    have H' := Aside0.mk H
    clear H
    go_wp2
    go_loopg [3] kj1 (fun kq v3 w' => ∃ (x3_2 : Int), v3 = .int .i64 x3_2 ∧ Aside0 (spec_FairOk.l0 kq x3_2 a0_0 a0_1 a0_2 a0_3 l0_4 = some r) ∧ Aside0 (kq ≤ kj1) ∧ Aside0 (w'.heap[gb169]? = some (.cells #[.int .i64 a0_0, .int .i64 a0_1, .int .i64 a0_2, .int .i64 a0_3, (.slice A0_4 l0_4.length c0_4)] 31 (0, 0))) ∧ Aside0 (Below w.heap.size w w'))
    case atStart => exact ⟨(0), (by first | rfl | (simp; done) | (simp [*]; done)), H', ⟨Nat.le_refl _⟩, ⟨bk_ BK169⟩, ⟨bf_ HB⟩⟩
    case round =>
     clear H'
     (try clear c1); (try clear p2 p2); (try clear c4); (try clear c5); (try clear c7); (try clear c7b0); (try clear c18); (try clear c19); (try clear hcz10_0 hcz10_1 hcz10_2 hcz10_3 hcz10_4 hfz10_0 hfz10_1 hfz10_2 hfz10_3 hfz10_4); (try clear hcz12_0 hcz12_1 hcz12_2 hcz12_3 hcz12_4 hfz12_0 hfz12_1 hfz12_2 hfz12_3 hfz12_4); (try clear hcz14_0 hcz14_1 hcz14_2 hcz14_3 hcz14_4 hfz14_0 hfz14_1 hfz14_2 hfz14_3 hfz14_4); (try clear hcz16_0 hcz16_1 hcz16_2 hcz16_3 hcz16_4 hfz16_0 hfz16_1 hfz16_2 hfz16_3 hfz16_4); (try clear hcz17_0 hcz17_1 hcz17_2 hcz17_3 hcz17_4 hfz17_0 hfz17_1 hfz17_2 hfz17_3 hfz17_4); (try clear hcz8_0 hcz8_1 hcz8_2 hcz8_3 hcz8_4 hfz8_0 hfz8_1 hfz8_2 hfz8_3 hfz8_4)
     obtain ⟨x3_2, rfl, HA, HK2, BK169, HB⟩ := hrel
     cases gk with
     | zero => exact absurd HA.out (by simp [spec_FairOk.l0])
     | succ k2 =>
      have H := HA.out
      clear HA
      simp only [spec_FairOk.l0] at H
      by_cases c20 : x3_2 < (l0_4.length : Int)
      ·rw [if_pos c20] at H
       have c20b0 : decide (x3_2 < (l0_4.length : Int)) = true := decide_eq_true c20
       clear c20
       by_cases c21 : 0 ≤ x3_2
       ·rw [if_pos c21] at H
        have c21b0 : decide (0 ≤ x3_2) = true := decide_eq_true c21
        clear c21
        have HC22 := Aside0.mk H
        clear H; obtain ⟨hcz23_0, hcz23_1, hcz23_2, hcz23_3, hcz23_4, hfz23_0, hfz23_1, hfz23_2, hfz23_3, hfz23_4⟩ := bz5_ BK169
        have p172 : 0 ≤ (x3_2 : Int) := od_
        have q172 : x3_2 < (l0_4.length : Int) := od_
        obtain ⟨ad172, e172, hx172_0, hx172_1, hx172_2, hx172_3, hx172_4, hx172_5⟩ := at_T46 HR0_4.out x3_2 p172 q172
        cases e172
        replace hx172_0 := hb_ HB hx172_0
        replace hx172_1 := hb_ HB hx172_1
        replace hx172_2 := hb_ HB hx172_2
        replace hx172_3 := hb_ HB hx172_3
        replace hx172_4 := hb_ HB hx172_4
        replace hx172_5 := hb_ HB hx172_5
        replace p172 := eq_true p172
        replace q172 := eq_true q172
        go_upto_region 7 with (first | ((with_reducible refine gd_ 4 rfl ?_); (try (refine gate_guard (by rfl) ?_; dsimp only)); refine bv_ 4 #[.int .i64 0, .int .i64 0, .bool false, .int .i64 0, .int .i64 0, .int .i64 0] 46 ?_; intro gb173 hg w24 hbox hb; have BK173 := Aside0.mk (hbox); have GW173 := gw_ HB hg; have GE173 := gw_ HB hg; replace HB := Aside0.mk (below_step (bf_ HB) hb); have NB169_173 := nl_ BK169 hg; have NB173_169 := ng_ BK169 hg; replace BK169 := bb_ BK169 hb; clear hb hbox hg; have hnb25 := NB173_169.out; have hnc25 := NB169_173.out; obtain ⟨hcz26_0, hcz26_1, hcz26_2, hcz26_3, hcz26_4, hcz26_5, hfz26_0, hfz26_1, hfz26_2, hfz26_3, hfz26_4, hfz26_5⟩ := bz6_ BK173))
        (try simp only [Act.put, ls0_, ls1_, ls2_])
        go_cut [72] (fun v72 wc => ∃ (kq : Nat) (x72_21 : Bool), v72 = .bool x72_21 ∧ Aside0 (spec_FairOk.j2 kq x3_2 x72_21 a0_0 a0_1 a0_2 a0_3 l0_4 ((rd_T46 l0_4 x3_2).f0) ((rd_T46 l0_4 x3_2).f1) ((rd_T46 l0_4 x3_2).f2) ((rd_T46 l0_4 x3_2).f3.f0) ((rd_T46 l0_4 x3_2).f3.f1) ((rd_T46 l0_4 x3_2).f3.f2) = some r) ∧ Aside0 (kq ≤ k2) ∧ Aside0 (wc.heap[gb169]? = some (.cells #[.int .i64 a0_0, .int .i64 a0_1, .int .i64 a0_2, .int .i64 a0_3, (.slice (some ad172) l0_4.length c0_4)] 31 (0, 0))) ∧ Aside0 (wc.heap[gb173]? = some (.cells #[.int .i64 ((rd_T46 l0_4 x3_2).f0), .int .i64 ((rd_T46 l0_4 x3_2).f1), .bool ((rd_T46 l0_4 x3_2).f2), .int .i64 ((rd_T46 l0_4 x3_2).f3.f0), .int .i64 ((rd_T46 l0_4 x3_2).f3.f1), .int .i64 ((rd_T46 l0_4 x3_2).f3.f2)] 46 (0, 0))) ∧ Aside0 (Below w.heap.size w wc))
        case first =>
         have H := HC22.out
         clear HC22
         by_cases c27 : ((rd_T46 l0_4 x3_2).f0) < 0
         ·rw [if_pos c27] at H
          have c27b0 : decide (((rd_T46 l0_4 x3_2).f0) < 0) = true := decide_eq_true c27
          clear c27
          (first | rw [c27b0] | (simp only [i64_w, i32_w]; rw [c27b0]) | skip)
          have H' := Aside0.mk H
          clear H
          try go_wp2
          generalize hW_ : ((((((w24.setCell ⟨gb173, 0, none⟩ (.int .i64 ((rd_T46 l0_4 x3_2).f0))).setCell ⟨gb173, 1, none⟩ (.int .i64 ((rd_T46 l0_4 x3_2).f1))).setCell ⟨gb173, 2, none⟩ (.bool ((rd_T46 l0_4 x3_2).f2))).setCell ⟨gb173, 3, none⟩ (.int .i64 ((rd_T46 l0_4 x3_2).f3.f0))).setCell ⟨gb173, 4, none⟩ (.int .i64 ((rd_T46 l0_4 x3_2).f3.f1))).setCell ⟨gb173, 5, none⟩ (.int .i64 ((rd_T46 l0_4 x3_2).f3.f2))) = w28
          replace BK169 := fc6_ hW_ BK169 NB169_173
          replace BK173 : Aside0 (w28.heap[gb173]? = some (.cells #[.int .i64 ((rd_T46 l0_4 x3_2).f0), .int .i64 ((rd_T46 l0_4 x3_2).f1), .bool ((rd_T46 l0_4 x3_2).f2), .int .i64 ((rd_T46 l0_4 x3_2).f3.f0), .int .i64 ((rd_T46 l0_4 x3_2).f3.f1), .int .i64 ((rd_T46 l0_4 x3_2).f3.f2)] 46 (0, 0))) := pc6_ hW_ BK173
          replace HB : Aside0 (Below w.heap.size w w28) := ⟨by cases hW_; exact bf_ HB⟩
          clear hW_; replace BK169 := Aside0.mk (blk_drew BK169.out); replace BK173 := Aside0.mk (blk_drew BK173.out); replace HB := Aside0.mk (below_drew1 HB.out)
          refine start_ (n := 38) (S := fun w' => cw_ w' gb173 0 (.int .i64 ((rd_T46 l0_4 x3_2).f0)) ∧ cw_ w' gb173 1 (.int .i64 ((rd_T46 l0_4 x3_2).f1)) ∧ cw_ w' gb173 2 (.bool ((rd_T46 l0_4 x3_2).f2)) ∧ cw_ w' gb173 3 (.int .i64 ((rd_T46 l0_4 x3_2).f3.f0)) ∧ cw_ w' gb173 4 (.int .i64 ((rd_T46 l0_4 x3_2).f3.f1)) ∧ cw_ w' gb173 5 (.int .i64 ((rd_T46 l0_4 x3_2).f3.f2))) (ds := []) (bs 38 0) (by kernel_rfl) rfl rfl ⟨bt_ BK173 0, bt_ BK173 1, bt_ BK173 2, bt_ BK173 3, bt_ BK173 4, bt_ BK173 5⟩ (fun hHeld => ?_); refine with_tabW spec_FairOk.tab7 spec_FairOk.bits7 (fun HT_ HW_ => ?_)
          generalize w28.drew = w29 at BK169 BK173 HB hHeld ⊢
          refine psn_ HT_ ?_
          refine tkn_ HT_ HW_ hHeld ?_
          iterate 2 (refine psn_ HT_ ?_)
          iterate 3 (refine pun_ HT_ ?_)
          iterate 2 (refine psn_ HT_ ?_)
          iterate 14 (refine pun_ HT_ ?_)
          iterate 2 (refine psn_ HT_ ?_)
          iterate 4 (refine pun_ HT_ ?_)
          iterate 2 (refine psn_ HT_ ?_)
          iterate 6 (refine pun_ HT_ ?_)
          refine psn_ HT_ ?_
          refine done_ (done_of HT_.out (by kernel_rfl)) ?_
          try go_wp2
          go_meet
          case rel => exact ⟨_, (true), (by first | rfl | (simp; done) | (simp [*]; done)), H', ⟨by have := HJ1.out; have := HK2.out; first | omega | exact Nat.le_refl _⟩, ⟨bk_ BK169⟩, ⟨bk_ BK173⟩, ⟨bf_ HB⟩⟩
         ·rw [if_neg c27] at H
          have c27b0 : decide (((rd_T46 l0_4 x3_2).f0) < 0) = false := decide_eq_false c27
          clear c27
          (first | rw [c27b0] | (simp only [i64_w, i32_w]; rw [c27b0]) | skip)
          by_cases c30 : ((rd_T46 l0_4 x3_2).f0) > 9999
          ·rw [if_pos c30] at H
           have c30b0 : decide (9999 < ((rd_T46 l0_4 x3_2).f0)) = true := decide_eq_true c30
           clear c30
           have H' := Aside0.mk H
           clear H
           try go_wp2
           generalize hW_ : ((((((w24.setCell ⟨gb173, 0, none⟩ (.int .i64 ((rd_T46 l0_4 x3_2).f0))).setCell ⟨gb173, 1, none⟩ (.int .i64 ((rd_T46 l0_4 x3_2).f1))).setCell ⟨gb173, 2, none⟩ (.bool ((rd_T46 l0_4 x3_2).f2))).setCell ⟨gb173, 3, none⟩ (.int .i64 ((rd_T46 l0_4 x3_2).f3.f0))).setCell ⟨gb173, 4, none⟩ (.int .i64 ((rd_T46 l0_4 x3_2).f3.f1))).setCell ⟨gb173, 5, none⟩ (.int .i64 ((rd_T46 l0_4 x3_2).f3.f2))) = w31
           replace BK169 := fc6_ hW_ BK169 NB169_173
           replace BK173 : Aside0 (w31.heap[gb173]? = some (.cells #[.int .i64 ((rd_T46 l0_4 x3_2).f0), .int .i64 ((rd_T46 l0_4 x3_2).f1), .bool ((rd_T46 l0_4 x3_2).f2), .int .i64 ((rd_T46 l0_4 x3_2).f3.f0), .int .i64 ((rd_T46 l0_4 x3_2).f3.f1), .int .i64 ((rd_T46 l0_4 x3_2).f3.f2)] 46 (0, 0))) := pc6_ hW_ BK173
           replace HB : Aside0 (Below w.heap.size w w31) := ⟨by cases hW_; exact bf_ HB⟩
           clear hW_; replace BK169 := Aside0.mk (blk_drew BK169.out); replace BK173 := Aside0.mk (blk_drew BK173.out); replace HB := Aside0.mk (below_drew1 HB.out)
           refine start_ (n := 38) (S := fun w' => cw_ w' gb173 0 (.int .i64 ((rd_T46 l0_4 x3_2).f0)) ∧ cw_ w' gb173 1 (.int .i64 ((rd_T46 l0_4 x3_2).f1)) ∧ cw_ w' gb173 2 (.bool ((rd_T46 l0_4 x3_2).f2)) ∧ cw_ w' gb173 3 (.int .i64 ((rd_T46 l0_4 x3_2).f3.f0)) ∧ cw_ w' gb173 4 (.int .i64 ((rd_T46 l0_4 x3_2).f3.f1)) ∧ cw_ w' gb173 5 (.int .i64 ((rd_T46 l0_4 x3_2).f3.f2))) (ds := []) (bs 38 0) (by kernel_rfl) rfl rfl ⟨bt_ BK173 0, bt_ BK173 1, bt_ BK173 2, bt_ BK173 3, bt_ BK173 4, bt_ BK173 5⟩ (fun hHeld => ?_); refine with_tabW spec_FairOk.tab7 spec_FairOk.bits7 (fun HT_ HW_ => ?_)
           generalize w31.drew = w32 at BK169 BK173 HB hHeld ⊢
           refine psn_ HT_ ?_
           refine tkn_ HT_ HW_ hHeld ?_
           iterate 3 (refine psn_ HT_ ?_)
           refine tkn_ HT_ HW_ hHeld ?_
           iterate 3 (refine psn_ HT_ ?_)
           iterate 14 (refine pun_ HT_ ?_)
           iterate 2 (refine psn_ HT_ ?_)
           iterate 4 (refine pun_ HT_ ?_)
           iterate 2 (refine psn_ HT_ ?_)
           iterate 6 (refine pun_ HT_ ?_)
           refine psn_ HT_ ?_
           refine done_ (done_of HT_.out (by kernel_rfl)) ?_
           try go_wp2
           go_meet
           case rel => exact ⟨_, (true), (by first | rfl | (simp; done) | (simp [*]; done)), H', ⟨by have := HJ1.out; have := HK2.out; first | omega | exact Nat.le_refl _⟩, ⟨bk_ BK169⟩, ⟨bk_ BK173⟩, ⟨bf_ HB⟩⟩
          ·rw [if_neg c30] at H
           have c30b0 : decide (9999 < ((rd_T46 l0_4 x3_2).f0)) = false := decide_eq_false c30
           clear c30
           by_cases c33 : x3_2 > 0
           ·rw [if_pos c33] at H
            have c33b0 : decide (0 < x3_2) = true := decide_eq_true c33
            clear c33
            obtain ⟨ji34, hji34⟩ : ∃ j_ : Int, (wrap64 (x3_2 - 1)) = j_ := ⟨_, rfl⟩
            replace H : (if 0 ≤ (ji34) then (if (ji34) < (l0_4.length : Int) then (if ((rd_T46 l0_4 (ji34)).f0) ≥ ((rd_T46 l0_4 x3_2).f0) then (spec_FairOk.j2 k2 x3_2 true a0_0 a0_1 a0_2 a0_3 l0_4 ((rd_T46 l0_4 x3_2).f0) ((rd_T46 l0_4 x3_2).f1) ((rd_T46 l0_4 x3_2).f2) ((rd_T46 l0_4 x3_2).f3.f0) ((rd_T46 l0_4 x3_2).f3.f1) ((rd_T46 l0_4 x3_2).f3.f2)) else ((spec_Stride.f ((rd_T46 l0_4 x3_2).f1)).bind fun t175 => (if t175 = 0 then (spec_FairOk.j2 k2 x3_2 true a0_0 a0_1 a0_2 a0_3 l0_4 ((rd_T46 l0_4 x3_2).f0) ((rd_T46 l0_4 x3_2).f1) ((rd_T46 l0_4 x3_2).f2) ((rd_T46 l0_4 x3_2).f3.f0) ((rd_T46 l0_4 x3_2).f3.f1) ((rd_T46 l0_4 x3_2).f3.f2)) else ((spec_Narrow.f ((rd_T46 l0_4 x3_2).f3.f0) ((rd_T46 l0_4 x3_2).f3.f1) ((rd_T46 l0_4 x3_2).f3.f2) a0_0).bind fun t176 => (spec_FairOk.j2 k2 x3_2 (!t176) a0_0 a0_1 a0_2 a0_3 l0_4 ((rd_T46 l0_4 x3_2).f0) ((rd_T46 l0_4 x3_2).f1) ((rd_T46 l0_4 x3_2).f2) ((rd_T46 l0_4 x3_2).f3.f0) ((rd_T46 l0_4 x3_2).f3.f1) ((rd_T46 l0_4 x3_2).f3.f2)))))) else (none)) else (none)) = some r := by first | (rw [hji34] at H; exact H) | (simp only [hji34] at H ⊢; exact H)
            have hji34w : (IntKind.i64.wrap (x3_2 - 1)) = ji34 := (i64_w _).trans hji34
            by_cases c35 : 0 ≤ (ji34)
            ·rw [if_pos c35] at H
             have c35b0 : decide (0 ≤ (ji34)) = true := decide_eq_true c35
             clear c35
             by_cases c36 : (ji34) < (l0_4.length : Int)
             ·rw [if_pos c36] at H
              have c36b0 : decide ((ji34) < (l0_4.length : Int)) = true := decide_eq_true c36
              clear c36
              by_cases c37 : ((rd_T46 l0_4 (ji34)).f0) ≥ ((rd_T46 l0_4 x3_2).f0)
              ·rw [if_pos c37] at H
               have c37b0 : decide (((rd_T46 l0_4 x3_2).f0) ≤ ((rd_T46 l0_4 (ji34)).f0)) = true := decide_eq_true c37
               clear c37
               have H' := Aside0.mk H
               clear H
               try go_wp2
               generalize hW_ : ((((((w24.setCell ⟨gb173, 0, none⟩ (.int .i64 ((rd_T46 l0_4 x3_2).f0))).setCell ⟨gb173, 1, none⟩ (.int .i64 ((rd_T46 l0_4 x3_2).f1))).setCell ⟨gb173, 2, none⟩ (.bool ((rd_T46 l0_4 x3_2).f2))).setCell ⟨gb173, 3, none⟩ (.int .i64 ((rd_T46 l0_4 x3_2).f3.f0))).setCell ⟨gb173, 4, none⟩ (.int .i64 ((rd_T46 l0_4 x3_2).f3.f1))).setCell ⟨gb173, 5, none⟩ (.int .i64 ((rd_T46 l0_4 x3_2).f3.f2))) = w38
               replace BK169 := fc6_ hW_ BK169 NB169_173
               replace BK173 : Aside0 (w38.heap[gb173]? = some (.cells #[.int .i64 ((rd_T46 l0_4 x3_2).f0), .int .i64 ((rd_T46 l0_4 x3_2).f1), .bool ((rd_T46 l0_4 x3_2).f2), .int .i64 ((rd_T46 l0_4 x3_2).f3.f0), .int .i64 ((rd_T46 l0_4 x3_2).f3.f1), .int .i64 ((rd_T46 l0_4 x3_2).f3.f2)] 46 (0, 0))) := pc6_ hW_ BK173
               replace HB : Aside0 (Below w.heap.size w w38) := ⟨by cases hW_; exact bf_ HB⟩
               clear hW_; replace BK169 := Aside0.mk (blk_drew BK169.out); replace BK173 := Aside0.mk (blk_drew BK173.out); replace HB := Aside0.mk (below_drew1 HB.out)
               have p174 : 0 ≤ ((ji34) : Int) := od_
               have q174 : (ji34) < (l0_4.length : Int) := od_
               obtain ⟨ad174, e174, hx174_0, hx174_1, hx174_2, hx174_3, hx174_4, hx174_5⟩ := at_T46 HR0_4.out (ji34) p174 q174
               have hw174_5 := hx174_5; have hw174_4 := hx174_4; have hw174_3 := hx174_3; have hw174_2 := hx174_2; have hw174_1 := hx174_1; have hw174_0 := hx174_0
               obtain rfl : ad172 = ad174 := (by injection e174)
               replace hx174_0 := hb_ HB hx174_0
               replace hx174_1 := hb_ HB hx174_1
               replace hx174_2 := hb_ HB hx174_2
               replace hx174_3 := hb_ HB hx174_3
               replace hx174_4 := hb_ HB hx174_4
               replace hx174_5 := hb_ HB hx174_5
               replace p174 := eq_true p174
               replace q174 := eq_true q174
               refine start_ (n := 38) (S := fun w' => cw_ w' gb173 0 (.int .i64 ((rd_T46 l0_4 x3_2).f0)) ∧ cw_ w' gb173 1 (.int .i64 ((rd_T46 l0_4 x3_2).f1)) ∧ cw_ w' gb173 2 (.bool ((rd_T46 l0_4 x3_2).f2)) ∧ cw_ w' gb173 3 (.int .i64 ((rd_T46 l0_4 x3_2).f3.f0)) ∧ cw_ w' gb173 4 (.int .i64 ((rd_T46 l0_4 x3_2).f3.f1)) ∧ cw_ w' gb173 5 (.int .i64 ((rd_T46 l0_4 x3_2).f3.f2)) ∧ cw_ w' gb169 0 (.int .i64 a0_0) ∧ cw_ w' gb169 1 (.int .i64 a0_1) ∧ cw_ w' gb169 2 (.int .i64 a0_2) ∧ cw_ w' gb169 3 (.int .i64 a0_3) ∧ cw_ w' gb169 4 (.slice (some ad172) l0_4.length c0_4) ∧ w'.cell? (ad172.add (((ji34)).toNat * 6)) = some (.int .i64 ((rd_T46 l0_4 (ji34)).f0)) ∧ w'.cell? ⟨(ad172.add (((ji34)).toNat * 6)).block, (ad172.add (((ji34)).toNat * 6)).off + 1, none⟩ = some (.int .i64 ((rd_T46 l0_4 (ji34)).f1)) ∧ w'.cell? ⟨(ad172.add (((ji34)).toNat * 6)).block, (ad172.add (((ji34)).toNat * 6)).off + 2, none⟩ = some (.bool ((rd_T46 l0_4 (ji34)).f2)) ∧ w'.cell? ⟨(ad172.add (((ji34)).toNat * 6)).block, (ad172.add (((ji34)).toNat * 6)).off + 3, none⟩ = some (.int .i64 ((rd_T46 l0_4 (ji34)).f3.f0)) ∧ w'.cell? ⟨(ad172.add (((ji34)).toNat * 6)).block, (ad172.add (((ji34)).toNat * 6)).off + 4, none⟩ = some (.int .i64 ((rd_T46 l0_4 (ji34)).f3.f1)) ∧ w'.cell? ⟨(ad172.add (((ji34)).toNat * 6)).block, (ad172.add (((ji34)).toNat * 6)).off + 5, none⟩ = some (.int .i64 ((rd_T46 l0_4 (ji34)).f3.f2))) (ds := []) (bs 38 0) (by kernel_rfl) rfl rfl ⟨bt_ BK173 0, bt_ BK173 1, bt_ BK173 2, bt_ BK173 3, bt_ BK173 4, bt_ BK173 5, bt_ BK169 0, bt_ BK169 1, bt_ BK169 2, bt_ BK169 3, bt_ BK169 4, (hd_ HB hw174_0), (hd_ HB hw174_1), (hd_ HB hw174_2), (hd_ HB hw174_3), (hd_ HB hw174_4), (hd_ HB hw174_5)⟩ (fun hHeld => ?_); refine with_tabW spec_FairOk.tab7 spec_FairOk.bits7 (fun HT_ HW_ => ?_)
               generalize w38.drew = w39 at BK169 BK173 HB hx174_0 hx174_1 hx174_2 hx174_3 hx174_4 hx174_5 hHeld ⊢
               refine psn_ HT_ ?_
               refine tkn_ HT_ HW_ hHeld ?_
               iterate 3 (refine psn_ HT_ ?_)
               refine tkn_ HT_ HW_ hHeld ?_
               iterate 7 (refine psn_ HT_ ?_)
               refine ps_ 14 49 (bm 38 24575) HT_ ?_
               refine ps_ 15 50 (bm 38 57343) HT_ ?_
               refine ps_ 19 54 (bm 38 581631) HT_ ?_
               refine tk_ 13 48 (bm 38 589823) HT_ HW_ hHeld ?_
               refine ps_ 16 51 (bm 38 655359) HT_ ?_
               refine ps_ 17 52 (bm 38 786431) HT_ ?_
               refine tk_ 18 53 (bs 38 20) HT_ HW_ hHeld ?_
               refine tkn_ HT_ HW_ hHeld ?_
               iterate 4 (refine psn_ HT_ ?_)
               iterate 4 (refine pun_ HT_ ?_)
               iterate 2 (refine psn_ HT_ ?_)
               iterate 6 (refine pun_ HT_ ?_)
               refine psn_ HT_ ?_
               refine done_ (done_of HT_.out (by kernel_rfl)) ?_
               try go_wp2
               go_meet
               case rel => exact ⟨_, (true), (by first | rfl | (simp; done) | (simp [*]; done)), H', ⟨by have := HJ1.out; have := HK2.out; first | omega | exact Nat.le_refl _⟩, ⟨bk_ BK169⟩, ⟨bk_ BK173⟩, ⟨bf_ HB⟩⟩
              ·rw [if_neg c37] at H
               have c37b0 : decide (((rd_T46 l0_4 x3_2).f0) ≤ ((rd_T46 l0_4 (ji34)).f0)) = false := decide_eq_false c37
               clear c37
               replace H := Option.bind_eq_some_iff.mp H
               obtain ⟨t175, A400, H⟩ := H
               have A40 := Aside0.mk A400
               clear A400
               by_cases c41 : t175 = 0
               ·rw [if_pos c41] at H
                have c41b0 : (t175 == 0) = true := beq_iff_eq.mpr c41
                have c41b1 : (t175 != 0) = false := bne_eq_false_iff_eq.mpr c41
                clear c41
                have H' := Aside0.mk H
                clear H
                try go_wp2
                generalize hW_ : ((((((w24.setCell ⟨gb173, 0, none⟩ (.int .i64 ((rd_T46 l0_4 x3_2).f0))).setCell ⟨gb173, 1, none⟩ (.int .i64 ((rd_T46 l0_4 x3_2).f1))).setCell ⟨gb173, 2, none⟩ (.bool ((rd_T46 l0_4 x3_2).f2))).setCell ⟨gb173, 3, none⟩ (.int .i64 ((rd_T46 l0_4 x3_2).f3.f0))).setCell ⟨gb173, 4, none⟩ (.int .i64 ((rd_T46 l0_4 x3_2).f3.f1))).setCell ⟨gb173, 5, none⟩ (.int .i64 ((rd_T46 l0_4 x3_2).f3.f2))) = w42
                replace BK169 := fc6_ hW_ BK169 NB169_173
                replace BK173 : Aside0 (w42.heap[gb173]? = some (.cells #[.int .i64 ((rd_T46 l0_4 x3_2).f0), .int .i64 ((rd_T46 l0_4 x3_2).f1), .bool ((rd_T46 l0_4 x3_2).f2), .int .i64 ((rd_T46 l0_4 x3_2).f3.f0), .int .i64 ((rd_T46 l0_4 x3_2).f3.f1), .int .i64 ((rd_T46 l0_4 x3_2).f3.f2)] 46 (0, 0))) := pc6_ hW_ BK173
                replace HB : Aside0 (Below w.heap.size w w42) := ⟨by cases hW_; exact bf_ HB⟩
                clear hW_; replace BK169 := Aside0.mk (blk_drew BK169.out); replace BK173 := Aside0.mk (blk_drew BK173.out); replace HB := Aside0.mk (below_drew1 HB.out)
                have p174 : 0 ≤ ((ji34) : Int) := od_
                have q174 : (ji34) < (l0_4.length : Int) := od_
                obtain ⟨ad174, e174, hx174_0, hx174_1, hx174_2, hx174_3, hx174_4, hx174_5⟩ := at_T46 HR0_4.out (ji34) p174 q174
                have hw174_5 := hx174_5; have hw174_4 := hx174_4; have hw174_3 := hx174_3; have hw174_2 := hx174_2; have hw174_1 := hx174_1; have hw174_0 := hx174_0
                obtain rfl : ad172 = ad174 := (by injection e174)
                replace hx174_0 := hb_ HB hx174_0
                replace hx174_1 := hb_ HB hx174_1
                replace hx174_2 := hb_ HB hx174_2
                replace hx174_3 := hb_ HB hx174_3
                replace hx174_4 := hb_ HB hx174_4
                replace hx174_5 := hb_ HB hx174_5
                replace p174 := eq_true p174
                replace q174 := eq_true q174
                refine start_ (n := 38) (S := fun w' => cw_ w' gb173 0 (.int .i64 ((rd_T46 l0_4 x3_2).f0)) ∧ cw_ w' gb173 1 (.int .i64 ((rd_T46 l0_4 x3_2).f1)) ∧ cw_ w' gb173 2 (.bool ((rd_T46 l0_4 x3_2).f2)) ∧ cw_ w' gb173 3 (.int .i64 ((rd_T46 l0_4 x3_2).f3.f0)) ∧ cw_ w' gb173 4 (.int .i64 ((rd_T46 l0_4 x3_2).f3.f1)) ∧ cw_ w' gb173 5 (.int .i64 ((rd_T46 l0_4 x3_2).f3.f2)) ∧ cw_ w' gb169 0 (.int .i64 a0_0) ∧ cw_ w' gb169 1 (.int .i64 a0_1) ∧ cw_ w' gb169 2 (.int .i64 a0_2) ∧ cw_ w' gb169 3 (.int .i64 a0_3) ∧ cw_ w' gb169 4 (.slice (some ad172) l0_4.length c0_4) ∧ w'.cell? (ad172.add (((ji34)).toNat * 6)) = some (.int .i64 ((rd_T46 l0_4 (ji34)).f0)) ∧ w'.cell? ⟨(ad172.add (((ji34)).toNat * 6)).block, (ad172.add (((ji34)).toNat * 6)).off + 1, none⟩ = some (.int .i64 ((rd_T46 l0_4 (ji34)).f1)) ∧ w'.cell? ⟨(ad172.add (((ji34)).toNat * 6)).block, (ad172.add (((ji34)).toNat * 6)).off + 2, none⟩ = some (.bool ((rd_T46 l0_4 (ji34)).f2)) ∧ w'.cell? ⟨(ad172.add (((ji34)).toNat * 6)).block, (ad172.add (((ji34)).toNat * 6)).off + 3, none⟩ = some (.int .i64 ((rd_T46 l0_4 (ji34)).f3.f0)) ∧ w'.cell? ⟨(ad172.add (((ji34)).toNat * 6)).block, (ad172.add (((ji34)).toNat * 6)).off + 4, none⟩ = some (.int .i64 ((rd_T46 l0_4 (ji34)).f3.f1)) ∧ w'.cell? ⟨(ad172.add (((ji34)).toNat * 6)).block, (ad172.add (((ji34)).toNat * 6)).off + 5, none⟩ = some (.int .i64 ((rd_T46 l0_4 (ji34)).f3.f2))) (ds := []) (bs 38 0) (by kernel_rfl) rfl rfl ⟨bt_ BK173 0, bt_ BK173 1, bt_ BK173 2, bt_ BK173 3, bt_ BK173 4, bt_ BK173 5, bt_ BK169 0, bt_ BK169 1, bt_ BK169 2, bt_ BK169 3, bt_ BK169 4, (hd_ HB hw174_0), (hd_ HB hw174_1), (hd_ HB hw174_2), (hd_ HB hw174_3), (hd_ HB hw174_4), (hd_ HB hw174_5)⟩ (fun hHeld => ?_); refine with_tabW spec_FairOk.tab7 spec_FairOk.bits7 (fun HT_ HW_ => ?_)
                generalize w42.drew = w43 at BK169 BK173 HB hx174_0 hx174_1 hx174_2 hx174_3 hx174_4 hx174_5 hHeld ⊢
                refine psn_ HT_ ?_
                refine tkn_ HT_ HW_ hHeld ?_
                iterate 3 (refine psn_ HT_ ?_)
                refine tkn_ HT_ HW_ hHeld ?_
                iterate 7 (refine psn_ HT_ ?_)
                refine ps_ 14 49 (bm 38 24575) HT_ ?_
                refine ps_ 15 50 (bm 38 57343) HT_ ?_
                refine ps_ 19 54 (bm 38 581631) HT_ ?_
                refine tk_ 13 48 (bm 38 589823) HT_ HW_ hHeld ?_
                refine ps_ 16 51 (bm 38 655359) HT_ ?_
                refine ps_ 17 52 (bm 38 786431) HT_ ?_
                refine tk_ 18 53 (bs 38 20) HT_ HW_ hHeld ?_
                refine tkn_ HT_ HW_ hHeld ?_
                iterate 5 (refine psn_ HT_ ?_)
                refine tkn_ HT_ HW_ hHeld ?_
                refine on_ 27 (some 62) (bs 38 28) HT_ (fun K hK => ?_)
                refine gs_ Try.func24 #[.int .i64 ((rd_T46 l0_4 x3_2).f1)] ?_
                with_reducible refine (spec_Stride.calls ((rd_T46 l0_4 x3_2).f1) t175 _ A40.out).mono ?_
                rintro e w' ⟨rfl, ⟨nd, rfl⟩⟩
                refine ⟨_, rfl, ?_⟩
                refine hK.out _ _ ⟨bt_ BK173 0, bt_ BK173 1, bt_ BK173 2, bt_ BK173 3, bt_ BK173 4, bt_ BK173 5, bt_ BK169 0, bt_ BK169 1, bt_ BK169 2, bt_ BK169 3, bt_ BK169 4, (hd_ HB hw174_0), (hd_ HB hw174_1), (hd_ HB hw174_2), (hd_ HB hw174_3), (hd_ HB hw174_4), (hd_ HB hw174_5)⟩ (fun hHeld => ?_)
                clear hK K
                refine norm_ (a' := ?_) ?_ ?_
                rotate_left
                ·show Act.put _ (some 62) _ = _
                 simp only [Act.put, ls0_, ls1_, ls2_, i64_w, i32_w]
                 rfl
                iterate 3 (refine psn_ HT_ ?_)
                iterate 6 (refine pun_ HT_ ?_)
                refine psn_ HT_ ?_
                refine done_ (done_of HT_.out (by kernel_rfl)) ?_
                try go_wp2
                go_meet
                case rel => exact ⟨_, (true), (by first | rfl | (simp; done) | (simp [*]; done)), H', ⟨by have := HJ1.out; have := HK2.out; first | omega | exact Nat.le_refl _⟩, ⟨bk_ BK169⟩, ⟨bk_ BK173⟩, ⟨bf_ HB⟩⟩
               ·rw [if_neg c41] at H
                have c41b0 : (t175 == 0) = false := beq_eq_false_iff_ne.mpr c41
                have c41b1 : (t175 != 0) = true := bne_iff_ne.mpr c41
                replace H := Option.bind_eq_some_iff.mp H
                obtain ⟨t176, A440, H⟩ := H
                have A44 := Aside0.mk A440
                clear A440
                have H' := Aside0.mk H
                clear H
                try go_wp2
                generalize hW_ : ((((((w24.setCell ⟨gb173, 0, none⟩ (.int .i64 ((rd_T46 l0_4 x3_2).f0))).setCell ⟨gb173, 1, none⟩ (.int .i64 ((rd_T46 l0_4 x3_2).f1))).setCell ⟨gb173, 2, none⟩ (.bool ((rd_T46 l0_4 x3_2).f2))).setCell ⟨gb173, 3, none⟩ (.int .i64 ((rd_T46 l0_4 x3_2).f3.f0))).setCell ⟨gb173, 4, none⟩ (.int .i64 ((rd_T46 l0_4 x3_2).f3.f1))).setCell ⟨gb173, 5, none⟩ (.int .i64 ((rd_T46 l0_4 x3_2).f3.f2))) = w45
                replace BK169 := fc6_ hW_ BK169 NB169_173
                replace BK173 : Aside0 (w45.heap[gb173]? = some (.cells #[.int .i64 ((rd_T46 l0_4 x3_2).f0), .int .i64 ((rd_T46 l0_4 x3_2).f1), .bool ((rd_T46 l0_4 x3_2).f2), .int .i64 ((rd_T46 l0_4 x3_2).f3.f0), .int .i64 ((rd_T46 l0_4 x3_2).f3.f1), .int .i64 ((rd_T46 l0_4 x3_2).f3.f2)] 46 (0, 0))) := pc6_ hW_ BK173
                replace HB : Aside0 (Below w.heap.size w w45) := ⟨by cases hW_; exact bf_ HB⟩
                clear hW_; replace BK169 := Aside0.mk (blk_drew BK169.out); replace BK173 := Aside0.mk (blk_drew BK173.out); replace HB := Aside0.mk (below_drew1 HB.out)
                have p174 : 0 ≤ ((ji34) : Int) := od_
                have q174 : (ji34) < (l0_4.length : Int) := od_
                obtain ⟨ad174, e174, hx174_0, hx174_1, hx174_2, hx174_3, hx174_4, hx174_5⟩ := at_T46 HR0_4.out (ji34) p174 q174
                have hw174_5 := hx174_5; have hw174_4 := hx174_4; have hw174_3 := hx174_3; have hw174_2 := hx174_2; have hw174_1 := hx174_1; have hw174_0 := hx174_0
                obtain rfl : ad172 = ad174 := (by injection e174)
                replace hx174_0 := hb_ HB hx174_0
                replace hx174_1 := hb_ HB hx174_1
                replace hx174_2 := hb_ HB hx174_2
                replace hx174_3 := hb_ HB hx174_3
                replace hx174_4 := hb_ HB hx174_4
                replace hx174_5 := hb_ HB hx174_5
                replace p174 := eq_true p174
                replace q174 := eq_true q174
                refine start_ (n := 38) (S := fun w' => cw_ w' gb173 0 (.int .i64 ((rd_T46 l0_4 x3_2).f0)) ∧ cw_ w' gb173 1 (.int .i64 ((rd_T46 l0_4 x3_2).f1)) ∧ cw_ w' gb173 2 (.bool ((rd_T46 l0_4 x3_2).f2)) ∧ cw_ w' gb173 3 (.int .i64 ((rd_T46 l0_4 x3_2).f3.f0)) ∧ cw_ w' gb173 4 (.int .i64 ((rd_T46 l0_4 x3_2).f3.f1)) ∧ cw_ w' gb173 5 (.int .i64 ((rd_T46 l0_4 x3_2).f3.f2)) ∧ cw_ w' gb169 0 (.int .i64 a0_0) ∧ cw_ w' gb169 1 (.int .i64 a0_1) ∧ cw_ w' gb169 2 (.int .i64 a0_2) ∧ cw_ w' gb169 3 (.int .i64 a0_3) ∧ cw_ w' gb169 4 (.slice (some ad172) l0_4.length c0_4) ∧ w'.cell? (ad172.add (((ji34)).toNat * 6)) = some (.int .i64 ((rd_T46 l0_4 (ji34)).f0)) ∧ w'.cell? ⟨(ad172.add (((ji34)).toNat * 6)).block, (ad172.add (((ji34)).toNat * 6)).off + 1, none⟩ = some (.int .i64 ((rd_T46 l0_4 (ji34)).f1)) ∧ w'.cell? ⟨(ad172.add (((ji34)).toNat * 6)).block, (ad172.add (((ji34)).toNat * 6)).off + 2, none⟩ = some (.bool ((rd_T46 l0_4 (ji34)).f2)) ∧ w'.cell? ⟨(ad172.add (((ji34)).toNat * 6)).block, (ad172.add (((ji34)).toNat * 6)).off + 3, none⟩ = some (.int .i64 ((rd_T46 l0_4 (ji34)).f3.f0)) ∧ w'.cell? ⟨(ad172.add (((ji34)).toNat * 6)).block, (ad172.add (((ji34)).toNat * 6)).off + 4, none⟩ = some (.int .i64 ((rd_T46 l0_4 (ji34)).f3.f1)) ∧ w'.cell? ⟨(ad172.add (((ji34)).toNat * 6)).block, (ad172.add (((ji34)).toNat * 6)).off + 5, none⟩ = some (.int .i64 ((rd_T46 l0_4 (ji34)).f3.f2))) (ds := []) (bs 38 0) (by kernel_rfl) rfl rfl ⟨bt_ BK173 0, bt_ BK173 1, bt_ BK173 2, bt_ BK173 3, bt_ BK173 4, bt_ BK173 5, bt_ BK169 0, bt_ BK169 1, bt_ BK169 2, bt_ BK169 3, bt_ BK169 4, (hd_ HB hw174_0), (hd_ HB hw174_1), (hd_ HB hw174_2), (hd_ HB hw174_3), (hd_ HB hw174_4), (hd_ HB hw174_5)⟩ (fun hHeld => ?_); refine with_tabW spec_FairOk.tab7 spec_FairOk.bits7 (fun HT_ HW_ => ?_)
                generalize w45.drew = w46 at BK169 BK173 HB hx174_0 hx174_1 hx174_2 hx174_3 hx174_4 hx174_5 hHeld ⊢
                refine psn_ HT_ ?_
                refine tkn_ HT_ HW_ hHeld ?_
                iterate 3 (refine psn_ HT_ ?_)
                refine tkn_ HT_ HW_ hHeld ?_
                iterate 7 (refine psn_ HT_ ?_)
                refine ps_ 14 49 (bm 38 24575) HT_ ?_
                refine ps_ 15 50 (bm 38 57343) HT_ ?_
                refine ps_ 19 54 (bm 38 581631) HT_ ?_
                refine tk_ 13 48 (bm 38 589823) HT_ HW_ hHeld ?_
                refine ps_ 16 51 (bm 38 655359) HT_ ?_
                refine ps_ 17 52 (bm 38 786431) HT_ ?_
                refine tk_ 18 53 (bs 38 20) HT_ HW_ hHeld ?_
                refine tkn_ HT_ HW_ hHeld ?_
                iterate 5 (refine psn_ HT_ ?_)
                refine tkn_ HT_ HW_ hHeld ?_
                refine on_ 27 (some 62) (bs 38 28) HT_ (fun K hK => ?_)
                refine gs_ Try.func24 #[.int .i64 ((rd_T46 l0_4 x3_2).f1)] ?_
                with_reducible refine (spec_Stride.calls ((rd_T46 l0_4 x3_2).f1) t175 _ A40.out).mono ?_
                rintro e w' ⟨rfl, ⟨nd, rfl⟩⟩
                refine ⟨_, rfl, ?_⟩
                refine hK.out _ _ ⟨bt_ BK173 0, bt_ BK173 1, bt_ BK173 2, bt_ BK173 3, bt_ BK173 4, bt_ BK173 5, bt_ BK169 0, bt_ BK169 1, bt_ BK169 2, bt_ BK169 3, bt_ BK169 4, (hd_ HB hw174_0), (hd_ HB hw174_1), (hd_ HB hw174_2), (hd_ HB hw174_3), (hd_ HB hw174_4), (hd_ HB hw174_5)⟩ (fun hHeld => ?_)
                clear hK K
                refine norm_ (a' := ?_) ?_ ?_
                rotate_left
                ·show Act.put _ (some 62) _ = _
                 simp only [Act.put, ls0_, ls1_, ls2_, i64_w, i32_w]
                 rfl
                iterate 4 (refine psn_ HT_ ?_)
                refine ps_ 33 68 (bm 38 12884901887) HT_ ?_
                refine tk_ 32 67 (bs 38 34) HT_ HW_ hHeld ?_
                refine tkn_ HT_ HW_ hHeld ?_
                refine on_ 35 (some 70) (bs 38 36) HT_ (fun K hK => ?_)
                refine gs_ Try.func49 #[.agg #[.int .i64 ((rd_T46 l0_4 x3_2).f3.f0), .int .i64 ((rd_T46 l0_4 x3_2).f3.f1), .int .i64 ((rd_T46 l0_4 x3_2).f3.f2)], .int .i64 a0_0] ?_
                with_reducible refine (spec_Narrow.calls ((rd_T46 l0_4 x3_2).f3.f0) ((rd_T46 l0_4 x3_2).f3.f1) ((rd_T46 l0_4 x3_2).f3.f2) a0_0 t176 _ A44.out).mono ?_
                rintro e w47 ⟨rfl, hb⟩
                refine ⟨_, rfl, ?_⟩
                replace BK169 := bb_ BK169 hb; replace BK173 := bb_ BK173 hb; replace HB := Aside0.mk (below_step (bf_ HB) hb); (try clear hb); (try clear hb2); (try clear hk); (try clear hi)
                refine hK.out _ _ ⟨bt_ BK173 0, bt_ BK173 1, bt_ BK173 2, bt_ BK173 3, bt_ BK173 4, bt_ BK173 5, bt_ BK169 0, bt_ BK169 1, bt_ BK169 2, bt_ BK169 3, bt_ BK169 4, (hd_ HB hw174_0), (hd_ HB hw174_1), (hd_ HB hw174_2), (hd_ HB hw174_3), (hd_ HB hw174_4), (hd_ HB hw174_5)⟩ (fun hHeld => ?_)
                clear hK K
                refine norm_ (a' := ?_) ?_ ?_
                rotate_left
                ·show Act.put _ (some 70) _ = _
                 simp only [Act.put, ls0_, ls1_, ls2_, i64_w, i32_w]
                 rfl
                iterate 2 (refine psn_ HT_ ?_)
                refine done_ (done_of HT_.out (by kernel_rfl)) ?_
                try go_wp2
                go_meet
                case rel => exact ⟨_, (!t176), (by first | rfl | (simp; done) | (simp [*]; done)), H', ⟨by have := HJ1.out; have := HK2.out; first | omega | exact Nat.le_refl _⟩, ⟨bk_ BK169⟩, ⟨bk_ BK173⟩, ⟨bf_ HB⟩⟩
             ·rw [if_neg c36] at H
              exact absurd H (by simp)
            ·rw [if_neg c35] at H
             exact absurd H (by simp)
           ·rw [if_neg c33] at H
            have c33b0 : decide (0 < x3_2) = false := decide_eq_false c33
            clear c33
            replace H := Option.bind_eq_some_iff.mp H
            obtain ⟨t177, A480, H⟩ := H
            have A48 := Aside0.mk A480
            clear A480
            by_cases c49 : t177 = 0
            ·rw [if_pos c49] at H
             have c49b0 : (t177 == 0) = true := beq_iff_eq.mpr c49
             have c49b1 : (t177 != 0) = false := bne_eq_false_iff_eq.mpr c49
             clear c49
             have H' := Aside0.mk H
             clear H
             try go_wp2
             generalize hW_ : ((((((w24.setCell ⟨gb173, 0, none⟩ (.int .i64 ((rd_T46 l0_4 x3_2).f0))).setCell ⟨gb173, 1, none⟩ (.int .i64 ((rd_T46 l0_4 x3_2).f1))).setCell ⟨gb173, 2, none⟩ (.bool ((rd_T46 l0_4 x3_2).f2))).setCell ⟨gb173, 3, none⟩ (.int .i64 ((rd_T46 l0_4 x3_2).f3.f0))).setCell ⟨gb173, 4, none⟩ (.int .i64 ((rd_T46 l0_4 x3_2).f3.f1))).setCell ⟨gb173, 5, none⟩ (.int .i64 ((rd_T46 l0_4 x3_2).f3.f2))) = w50
             replace BK169 := fc6_ hW_ BK169 NB169_173
             replace BK173 : Aside0 (w50.heap[gb173]? = some (.cells #[.int .i64 ((rd_T46 l0_4 x3_2).f0), .int .i64 ((rd_T46 l0_4 x3_2).f1), .bool ((rd_T46 l0_4 x3_2).f2), .int .i64 ((rd_T46 l0_4 x3_2).f3.f0), .int .i64 ((rd_T46 l0_4 x3_2).f3.f1), .int .i64 ((rd_T46 l0_4 x3_2).f3.f2)] 46 (0, 0))) := pc6_ hW_ BK173
             replace HB : Aside0 (Below w.heap.size w w50) := ⟨by cases hW_; exact bf_ HB⟩
             clear hW_; replace BK169 := Aside0.mk (blk_drew BK169.out); replace BK173 := Aside0.mk (blk_drew BK173.out); replace HB := Aside0.mk (below_drew1 HB.out)
             refine start_ (n := 38) (S := fun w' => cw_ w' gb173 0 (.int .i64 ((rd_T46 l0_4 x3_2).f0)) ∧ cw_ w' gb173 1 (.int .i64 ((rd_T46 l0_4 x3_2).f1)) ∧ cw_ w' gb173 2 (.bool ((rd_T46 l0_4 x3_2).f2)) ∧ cw_ w' gb173 3 (.int .i64 ((rd_T46 l0_4 x3_2).f3.f0)) ∧ cw_ w' gb173 4 (.int .i64 ((rd_T46 l0_4 x3_2).f3.f1)) ∧ cw_ w' gb173 5 (.int .i64 ((rd_T46 l0_4 x3_2).f3.f2))) (ds := []) (bs 38 0) (by kernel_rfl) rfl rfl ⟨bt_ BK173 0, bt_ BK173 1, bt_ BK173 2, bt_ BK173 3, bt_ BK173 4, bt_ BK173 5⟩ (fun hHeld => ?_); refine with_tabW spec_FairOk.tab7 spec_FairOk.bits7 (fun HT_ HW_ => ?_)
             generalize w50.drew = w51 at BK169 BK173 HB hHeld ⊢
             refine psn_ HT_ ?_
             refine tkn_ HT_ HW_ hHeld ?_
             iterate 3 (refine psn_ HT_ ?_)
             refine tkn_ HT_ HW_ hHeld ?_
             iterate 6 (refine psn_ HT_ ?_)
             iterate 10 (refine pun_ HT_ ?_)
             iterate 4 (refine psn_ HT_ ?_)
             refine tkn_ HT_ HW_ hHeld ?_
             refine on_ 27 (some 62) (bs 38 28) HT_ (fun K hK => ?_)
             refine gs_ Try.func24 #[.int .i64 ((rd_T46 l0_4 x3_2).f1)] ?_
             with_reducible refine (spec_Stride.calls ((rd_T46 l0_4 x3_2).f1) t177 _ A48.out).mono ?_
             rintro e w' ⟨rfl, ⟨nd, rfl⟩⟩
             refine ⟨_, rfl, ?_⟩
             refine hK.out _ _ ⟨bt_ BK173 0, bt_ BK173 1, bt_ BK173 2, bt_ BK173 3, bt_ BK173 4, bt_ BK173 5⟩ (fun hHeld => ?_)
             clear hK K
             refine norm_ (a' := ?_) ?_ ?_
             rotate_left
             ·show Act.put _ (some 62) _ = _
              simp only [Act.put, ls0_, ls1_, ls2_, i64_w, i32_w]
              rfl
             iterate 3 (refine psn_ HT_ ?_)
             iterate 6 (refine pun_ HT_ ?_)
             refine psn_ HT_ ?_
             refine done_ (done_of HT_.out (by kernel_rfl)) ?_
             try go_wp2
             go_meet
             case rel => exact ⟨_, (true), (by first | rfl | (simp; done) | (simp [*]; done)), H', ⟨by have := HJ1.out; have := HK2.out; first | omega | exact Nat.le_refl _⟩, ⟨bk_ BK169⟩, ⟨bk_ BK173⟩, ⟨bf_ HB⟩⟩
            ·rw [if_neg c49] at H
             have c49b0 : (t177 == 0) = false := beq_eq_false_iff_ne.mpr c49
             have c49b1 : (t177 != 0) = true := bne_iff_ne.mpr c49
             replace H := Option.bind_eq_some_iff.mp H
             obtain ⟨t178, A520, H⟩ := H
             have A52 := Aside0.mk A520
             clear A520
             have H' := Aside0.mk H
             clear H
             try go_wp2
             generalize hW_ : ((((((w24.setCell ⟨gb173, 0, none⟩ (.int .i64 ((rd_T46 l0_4 x3_2).f0))).setCell ⟨gb173, 1, none⟩ (.int .i64 ((rd_T46 l0_4 x3_2).f1))).setCell ⟨gb173, 2, none⟩ (.bool ((rd_T46 l0_4 x3_2).f2))).setCell ⟨gb173, 3, none⟩ (.int .i64 ((rd_T46 l0_4 x3_2).f3.f0))).setCell ⟨gb173, 4, none⟩ (.int .i64 ((rd_T46 l0_4 x3_2).f3.f1))).setCell ⟨gb173, 5, none⟩ (.int .i64 ((rd_T46 l0_4 x3_2).f3.f2))) = w53
             replace BK169 := fc6_ hW_ BK169 NB169_173
             replace BK173 : Aside0 (w53.heap[gb173]? = some (.cells #[.int .i64 ((rd_T46 l0_4 x3_2).f0), .int .i64 ((rd_T46 l0_4 x3_2).f1), .bool ((rd_T46 l0_4 x3_2).f2), .int .i64 ((rd_T46 l0_4 x3_2).f3.f0), .int .i64 ((rd_T46 l0_4 x3_2).f3.f1), .int .i64 ((rd_T46 l0_4 x3_2).f3.f2)] 46 (0, 0))) := pc6_ hW_ BK173
             replace HB : Aside0 (Below w.heap.size w w53) := ⟨by cases hW_; exact bf_ HB⟩
             clear hW_; replace BK169 := Aside0.mk (blk_drew BK169.out); replace BK173 := Aside0.mk (blk_drew BK173.out); replace HB := Aside0.mk (below_drew1 HB.out)
             refine start_ (n := 38) (S := fun w' => cw_ w' gb173 0 (.int .i64 ((rd_T46 l0_4 x3_2).f0)) ∧ cw_ w' gb173 1 (.int .i64 ((rd_T46 l0_4 x3_2).f1)) ∧ cw_ w' gb173 2 (.bool ((rd_T46 l0_4 x3_2).f2)) ∧ cw_ w' gb173 3 (.int .i64 ((rd_T46 l0_4 x3_2).f3.f0)) ∧ cw_ w' gb173 4 (.int .i64 ((rd_T46 l0_4 x3_2).f3.f1)) ∧ cw_ w' gb173 5 (.int .i64 ((rd_T46 l0_4 x3_2).f3.f2)) ∧ cw_ w' gb169 0 (.int .i64 a0_0) ∧ cw_ w' gb169 1 (.int .i64 a0_1) ∧ cw_ w' gb169 2 (.int .i64 a0_2) ∧ cw_ w' gb169 3 (.int .i64 a0_3) ∧ cw_ w' gb169 4 (.slice (some ad172) l0_4.length c0_4)) (ds := []) (bs 38 0) (by kernel_rfl) rfl rfl ⟨bt_ BK173 0, bt_ BK173 1, bt_ BK173 2, bt_ BK173 3, bt_ BK173 4, bt_ BK173 5, bt_ BK169 0, bt_ BK169 1, bt_ BK169 2, bt_ BK169 3, bt_ BK169 4⟩ (fun hHeld => ?_); refine with_tabW spec_FairOk.tab7 spec_FairOk.bits7 (fun HT_ HW_ => ?_)
             generalize w53.drew = w54 at BK169 BK173 HB hHeld ⊢
             refine psn_ HT_ ?_
             refine tkn_ HT_ HW_ hHeld ?_
             iterate 3 (refine psn_ HT_ ?_)
             refine tkn_ HT_ HW_ hHeld ?_
             iterate 6 (refine psn_ HT_ ?_)
             iterate 10 (refine pun_ HT_ ?_)
             iterate 4 (refine psn_ HT_ ?_)
             refine tkn_ HT_ HW_ hHeld ?_
             refine on_ 27 (some 62) (bs 38 28) HT_ (fun K hK => ?_)
             refine gs_ Try.func24 #[.int .i64 ((rd_T46 l0_4 x3_2).f1)] ?_
             with_reducible refine (spec_Stride.calls ((rd_T46 l0_4 x3_2).f1) t177 _ A48.out).mono ?_
             rintro e w' ⟨rfl, ⟨nd, rfl⟩⟩
             refine ⟨_, rfl, ?_⟩
             refine hK.out _ _ ⟨bt_ BK173 0, bt_ BK173 1, bt_ BK173 2, bt_ BK173 3, bt_ BK173 4, bt_ BK173 5, bt_ BK169 0, bt_ BK169 1, bt_ BK169 2, bt_ BK169 3, bt_ BK169 4⟩ (fun hHeld => ?_)
             clear hK K
             refine norm_ (a' := ?_) ?_ ?_
             rotate_left
             ·show Act.put _ (some 62) _ = _
              simp only [Act.put, ls0_, ls1_, ls2_, i64_w, i32_w]
              rfl
             iterate 4 (refine psn_ HT_ ?_)
             refine ps_ 33 68 (bm 38 12884901887) HT_ ?_
             refine tk_ 32 67 (bs 38 34) HT_ HW_ hHeld ?_
             refine tkn_ HT_ HW_ hHeld ?_
             refine on_ 35 (some 70) (bs 38 36) HT_ (fun K hK => ?_)
             refine gs_ Try.func49 #[.agg #[.int .i64 ((rd_T46 l0_4 x3_2).f3.f0), .int .i64 ((rd_T46 l0_4 x3_2).f3.f1), .int .i64 ((rd_T46 l0_4 x3_2).f3.f2)], .int .i64 a0_0] ?_
             with_reducible refine (spec_Narrow.calls ((rd_T46 l0_4 x3_2).f3.f0) ((rd_T46 l0_4 x3_2).f3.f1) ((rd_T46 l0_4 x3_2).f3.f2) a0_0 t178 _ A52.out).mono ?_
             rintro e w55 ⟨rfl, hb⟩
             refine ⟨_, rfl, ?_⟩
             replace BK169 := bb_ BK169 hb; replace BK173 := bb_ BK173 hb; replace HB := Aside0.mk (below_step (bf_ HB) hb); (try clear hb); (try clear hb2); (try clear hk); (try clear hi)
             refine hK.out _ _ ⟨bt_ BK173 0, bt_ BK173 1, bt_ BK173 2, bt_ BK173 3, bt_ BK173 4, bt_ BK173 5, bt_ BK169 0, bt_ BK169 1, bt_ BK169 2, bt_ BK169 3, bt_ BK169 4⟩ (fun hHeld => ?_)
             clear hK K
             refine norm_ (a' := ?_) ?_ ?_
             rotate_left
             ·show Act.put _ (some 70) _ = _
              simp only [Act.put, ls0_, ls1_, ls2_, i64_w, i32_w]
              rfl
             iterate 2 (refine psn_ HT_ ?_)
             refine done_ (done_of HT_.out (by kernel_rfl)) ?_
             try go_wp2
             go_meet
             case rel => exact ⟨_, (!t178), (by first | rfl | (simp; done) | (simp [*]; done)), H', ⟨by have := HJ1.out; have := HK2.out; first | omega | exact Nat.le_refl _⟩, ⟨bk_ BK169⟩, ⟨bk_ BK173⟩, ⟨bf_ HB⟩⟩
        case rest =>
         clear HC22; (try clear c2); (try clear p2); (try clear c4); (try clear c24); (try clear c49); (try clear c49b0); (try clear c49b1)
         obtain ⟨kq, x72_21, rfl, HA, HJ21, BK169, BK173, HB⟩ := hcut
         cases kq with
         | zero => exact absurd HA.out (by simp [spec_FairOk.j2])
         | succ kj21 =>
          have H := HA.out
          clear HA
          simp only [spec_FairOk.j2] at H
          by_cases c56 : x72_21 = true
          ·subst c56
           rw [if_pos rfl] at H
           obtain rfl := Option.some.inj H
           go_wp2
           go_ret
           exact ⟨by first | rfl | (simp [errW_none, errW_some] <;> rfl) | (simp [*, errW_none, errW_some] <;> rfl), bf_ HB⟩
          ·replace c56 := Bool.eq_false_iff.mpr c56
           subst c56
           rw [if_neg (show ¬ (false = true) by decide)] at H
           replace H := Option.bind_eq_some_iff.mp H
           obtain ⟨t179, A570, H⟩ := H
           have A57 := Aside0.mk A570
           clear A570
           replace H := Option.bind_eq_some_iff.mp H
           obtain ⟨t180, A580, H⟩ := H
           have A58 := Aside0.mk A580
           clear A580
           replace H := Option.bind_eq_some_iff.mp H
           obtain ⟨t181, A590, H⟩ := H
           have A59 := Aside0.mk A590
           clear A590
           by_cases c60 : t179 > (wrap64 (t180 + (wrap64 (t181 * 2000))))
           ·rw [if_pos c60] at H
            have c60b0 : decide ((wrap64 (t180 + (wrap64 (t181 * 2000)))) < t179) = true := decide_eq_true c60
            clear c60
            obtain rfl := Option.some.inj H
            try go_wp2
            replace BK169 := Aside0.mk (blk_drew BK169.out); replace BK173 := Aside0.mk (blk_drew BK173.out); replace HB := Aside0.mk (below_drew1 HB.out)
            refine start_ (n := 25) (S := fun w' => cw_ w' gb173 0 (.int .i64 ((rd_T46 l0_4 x3_2).f0)) ∧ cw_ w' gb173 1 (.int .i64 ((rd_T46 l0_4 x3_2).f1)) ∧ cw_ w' gb173 2 (.bool ((rd_T46 l0_4 x3_2).f2)) ∧ cw_ w' gb173 3 (.int .i64 ((rd_T46 l0_4 x3_2).f3.f0)) ∧ cw_ w' gb173 4 (.int .i64 ((rd_T46 l0_4 x3_2).f3.f1)) ∧ cw_ w' gb173 5 (.int .i64 ((rd_T46 l0_4 x3_2).f3.f2)) ∧ cw_ w' gb169 0 (.int .i64 a0_0) ∧ cw_ w' gb169 1 (.int .i64 a0_1) ∧ cw_ w' gb169 2 (.int .i64 a0_2) ∧ cw_ w' gb169 3 (.int .i64 a0_3) ∧ cw_ w' gb169 4 (.slice (some ad172) l0_4.length c0_4)) (ds := []) (bs 25 0) (by kernel_rfl) rfl rfl ⟨bt_ BK173 0, bt_ BK173 1, bt_ BK173 2, bt_ BK173 3, bt_ BK173 4, bt_ BK173 5, bt_ BK169 0, bt_ BK169 1, bt_ BK169 2, bt_ BK169 3, bt_ BK169 4⟩ (fun hHeld => ?_); refine with_tabW spec_FairOk.tab9 spec_FairOk.bits9 (fun HT_ HW_ => ?_)
            generalize wc.drew = w61 at BK169 BK173 HB hHeld ⊢
            refine psn_ HT_ ?_
            refine ps_ 3 76 (bm 25 9) HT_ ?_
            refine ps_ 6 79 (bm 25 73) HT_ ?_
            refine tk_ 1 74 (bm 25 75) HT_ HW_ hHeld ?_
            refine tk_ 4 77 (bm 25 91) HT_ HW_ hHeld ?_
            refine tk_ 7 80 (bm 25 219) HT_ HW_ hHeld ?_
            refine on_ 2 (some 75) (bm 25 223) HT_ (fun K hK => ?_)
            refine gs_ Try.func23 #[.agg #[.int .i64 ((rd_T46 l0_4 x3_2).f3.f0), .int .i64 ((rd_T46 l0_4 x3_2).f3.f1), .int .i64 ((rd_T46 l0_4 x3_2).f3.f2)]] ?_
            with_reducible refine (spec_VecTop.calls ((rd_T46 l0_4 x3_2).f3.f0) ((rd_T46 l0_4 x3_2).f3.f1) ((rd_T46 l0_4 x3_2).f3.f2) t179 _ A57.out).mono ?_
            rintro e w62 ⟨rfl, hb⟩
            refine ⟨_, rfl, ?_⟩
            replace BK169 := bb_ BK169 hb; replace BK173 := bb_ BK173 hb; replace HB := Aside0.mk (below_step (bf_ HB) hb); (try clear hb); (try clear hb2); (try clear hk); (try clear hi)
            refine hK.out _ _ ⟨bt_ BK173 0, bt_ BK173 1, bt_ BK173 2, bt_ BK173 3, bt_ BK173 4, bt_ BK173 5, bt_ BK169 0, bt_ BK169 1, bt_ BK169 2, bt_ BK169 3, bt_ BK169 4⟩ (fun hHeld => ?_)
            clear hK K
            refine norm_ (a' := ?_) ?_ ?_
            rotate_left
            ·show Act.put _ (some 75) _ = _
             simp only [Act.put, ls0_, ls1_, ls2_, i64_w, i32_w]
             rfl
            refine on_ 5 (some 78) (bs 25 8) HT_ (fun K hK => ?_)
            refine gs_ Try.func23 #[.agg #[.int .i64 a0_1, .int .i64 a0_2, .int .i64 a0_3]] ?_
            with_reducible refine (spec_VecTop.calls a0_1 a0_2 a0_3 t180 _ A58.out).mono ?_
            rintro e w63 ⟨rfl, hb⟩
            refine ⟨_, rfl, ?_⟩
            replace BK169 := bb_ BK169 hb; replace BK173 := bb_ BK173 hb; replace HB := Aside0.mk (below_step (bf_ HB) hb); (try clear hb); (try clear hb2); (try clear hk); (try clear hi)
            refine hK.out _ _ ⟨bt_ BK173 0, bt_ BK173 1, bt_ BK173 2, bt_ BK173 3, bt_ BK173 4, bt_ BK173 5, bt_ BK169 0, bt_ BK169 1, bt_ BK169 2, bt_ BK169 3, bt_ BK169 4⟩ (fun hHeld => ?_)
            clear hK K
            refine norm_ (a' := ?_) ?_ ?_
            rotate_left
            ·show Act.put _ (some 78) _ = _
             simp only [Act.put, ls0_, ls1_, ls2_, i64_w, i32_w]
             rfl
            refine on_ 8 (some 81) (bs 25 9) HT_ (fun K hK => ?_)
            refine gs_ Try.func24 #[.int .i64 ((rd_T46 l0_4 x3_2).f1)] ?_
            with_reducible refine (spec_Stride.calls ((rd_T46 l0_4 x3_2).f1) t181 _ A59.out).mono ?_
            rintro e w' ⟨rfl, ⟨nd, rfl⟩⟩
            refine ⟨_, rfl, ?_⟩
            refine hK.out _ _ ⟨bt_ BK173 0, bt_ BK173 1, bt_ BK173 2, bt_ BK173 3, bt_ BK173 4, bt_ BK173 5, bt_ BK169 0, bt_ BK169 1, bt_ BK169 2, bt_ BK169 3, bt_ BK169 4⟩ (fun hHeld => ?_)
            clear hK K
            refine norm_ (a' := ?_) ?_ ?_
            rotate_left
            ·show Act.put _ (some 81) _ = _
             simp only [Act.put, ls0_, ls1_, ls2_, i64_w, i32_w]
             rfl
            iterate 4 (refine psn_ HT_ ?_)
            iterate 11 (refine pun_ HT_ ?_)
            refine psn_ HT_ ?_
            refine done_ (done_of HT_.out (by kernel_rfl)) ?_
            try go_wp2
            go_ret
            exact ⟨by first | rfl | (simp [errW_none, errW_some] <;> rfl) | (simp [*, errW_none, errW_some] <;> rfl), bf_ HB⟩
           ·rw [if_neg c60] at H
            have c60b0 : decide ((wrap64 (t180 + (wrap64 (t181 * 2000)))) < t179) = false := decide_eq_false c60
            clear c60
            by_cases c64 : ((rd_T46 l0_4 x3_2).f2) = true
            ·rw [if_pos c64] at H
             have c64b0 : ((rd_T46 l0_4 x3_2).f2) = true := c64
             clear c64
             replace H := Option.bind_eq_some_iff.mp H
             obtain ⟨t182, A650, H⟩ := H
             have A65 := Aside0.mk A650
             clear A650
             replace H := Option.bind_eq_some_iff.mp H
             obtain ⟨t183, A660, H⟩ := H
             have A66 := Aside0.mk A660
             clear A660
             by_cases c67 : t182 < t183
             ·rw [if_pos c67] at H
              have c67b0 : decide (t182 < t183) = true := decide_eq_true c67
              clear c67
              obtain rfl := Option.some.inj H
              try go_wp2
              replace BK169 := Aside0.mk (blk_drew BK169.out); replace BK173 := Aside0.mk (blk_drew BK173.out); replace HB := Aside0.mk (below_drew1 HB.out)
              refine start_ (n := 25) (S := fun w' => cw_ w' gb173 0 (.int .i64 ((rd_T46 l0_4 x3_2).f0)) ∧ cw_ w' gb173 1 (.int .i64 ((rd_T46 l0_4 x3_2).f1)) ∧ cw_ w' gb173 2 (.bool ((rd_T46 l0_4 x3_2).f2)) ∧ cw_ w' gb173 3 (.int .i64 ((rd_T46 l0_4 x3_2).f3.f0)) ∧ cw_ w' gb173 4 (.int .i64 ((rd_T46 l0_4 x3_2).f3.f1)) ∧ cw_ w' gb173 5 (.int .i64 ((rd_T46 l0_4 x3_2).f3.f2)) ∧ cw_ w' gb169 0 (.int .i64 a0_0) ∧ cw_ w' gb169 1 (.int .i64 a0_1) ∧ cw_ w' gb169 2 (.int .i64 a0_2) ∧ cw_ w' gb169 3 (.int .i64 a0_3) ∧ cw_ w' gb169 4 (.slice (some ad172) l0_4.length c0_4)) (ds := []) (bs 25 0) (by kernel_rfl) rfl rfl ⟨bt_ BK173 0, bt_ BK173 1, bt_ BK173 2, bt_ BK173 3, bt_ BK173 4, bt_ BK173 5, bt_ BK169 0, bt_ BK169 1, bt_ BK169 2, bt_ BK169 3, bt_ BK169 4⟩ (fun hHeld => ?_); refine with_tabW spec_FairOk.tab9 spec_FairOk.bits9 (fun HT_ HW_ => ?_)
              generalize wc.drew = w68 at BK169 BK173 HB hHeld ⊢
              refine psn_ HT_ ?_
              refine ps_ 3 76 (bm 25 9) HT_ ?_
              refine ps_ 6 79 (bm 25 73) HT_ ?_
              refine tk_ 1 74 (bm 25 75) HT_ HW_ hHeld ?_
              refine tk_ 4 77 (bm 25 91) HT_ HW_ hHeld ?_
              refine tk_ 7 80 (bm 25 219) HT_ HW_ hHeld ?_
              refine on_ 2 (some 75) (bm 25 223) HT_ (fun K hK => ?_)
              refine gs_ Try.func23 #[.agg #[.int .i64 ((rd_T46 l0_4 x3_2).f3.f0), .int .i64 ((rd_T46 l0_4 x3_2).f3.f1), .int .i64 ((rd_T46 l0_4 x3_2).f3.f2)]] ?_
              with_reducible refine (spec_VecTop.calls ((rd_T46 l0_4 x3_2).f3.f0) ((rd_T46 l0_4 x3_2).f3.f1) ((rd_T46 l0_4 x3_2).f3.f2) t179 _ A57.out).mono ?_
              rintro e w69 ⟨rfl, hb⟩
              refine ⟨_, rfl, ?_⟩
              replace BK169 := bb_ BK169 hb; replace BK173 := bb_ BK173 hb; replace HB := Aside0.mk (below_step (bf_ HB) hb); (try clear hb); (try clear hb2); (try clear hk); (try clear hi)
              refine hK.out _ _ ⟨bt_ BK173 0, bt_ BK173 1, bt_ BK173 2, bt_ BK173 3, bt_ BK173 4, bt_ BK173 5, bt_ BK169 0, bt_ BK169 1, bt_ BK169 2, bt_ BK169 3, bt_ BK169 4⟩ (fun hHeld => ?_)
              clear hK K
              refine norm_ (a' := ?_) ?_ ?_
              rotate_left
              ·show Act.put _ (some 75) _ = _
               simp only [Act.put, ls0_, ls1_, ls2_, i64_w, i32_w]
               rfl
              refine on_ 5 (some 78) (bs 25 8) HT_ (fun K hK => ?_)
              refine gs_ Try.func23 #[.agg #[.int .i64 a0_1, .int .i64 a0_2, .int .i64 a0_3]] ?_
              with_reducible refine (spec_VecTop.calls a0_1 a0_2 a0_3 t180 _ A58.out).mono ?_
              rintro e w70 ⟨rfl, hb⟩
              refine ⟨_, rfl, ?_⟩
              replace BK169 := bb_ BK169 hb; replace BK173 := bb_ BK173 hb; replace HB := Aside0.mk (below_step (bf_ HB) hb); (try clear hb); (try clear hb2); (try clear hk); (try clear hi)
              refine hK.out _ _ ⟨bt_ BK173 0, bt_ BK173 1, bt_ BK173 2, bt_ BK173 3, bt_ BK173 4, bt_ BK173 5, bt_ BK169 0, bt_ BK169 1, bt_ BK169 2, bt_ BK169 3, bt_ BK169 4⟩ (fun hHeld => ?_)
              clear hK K
              refine norm_ (a' := ?_) ?_ ?_
              rotate_left
              ·show Act.put _ (some 78) _ = _
               simp only [Act.put, ls0_, ls1_, ls2_, i64_w, i32_w]
               rfl
              refine on_ 8 (some 81) (bs 25 9) HT_ (fun K hK => ?_)
              refine gs_ Try.func24 #[.int .i64 ((rd_T46 l0_4 x3_2).f1)] ?_
              with_reducible refine (spec_Stride.calls ((rd_T46 l0_4 x3_2).f1) t181 _ A59.out).mono ?_
              rintro e w' ⟨rfl, ⟨nd, rfl⟩⟩
              refine ⟨_, rfl, ?_⟩
              refine hK.out _ _ ⟨bt_ BK173 0, bt_ BK173 1, bt_ BK173 2, bt_ BK173 3, bt_ BK173 4, bt_ BK173 5, bt_ BK169 0, bt_ BK169 1, bt_ BK169 2, bt_ BK169 3, bt_ BK169 4⟩ (fun hHeld => ?_)
              clear hK K
              refine norm_ (a' := ?_) ?_ ?_
              rotate_left
              ·show Act.put _ (some 81) _ = _
               simp only [Act.put, ls0_, ls1_, ls2_, i64_w, i32_w]
               rfl
              iterate 5 (refine psn_ HT_ ?_)
              refine tkn_ HT_ HW_ hHeld ?_
              iterate 2 (refine psn_ HT_ ?_)
              refine ps_ 19 92 (bm 25 655359) HT_ ?_
              refine tk_ 17 90 (bm 25 786431) HT_ HW_ hHeld ?_
              refine tk_ 20 93 (bm 25 1835007) HT_ HW_ hHeld ?_
              refine on_ 18 (some 91) (bs 25 21) HT_ (fun K hK => ?_)
              refine gs_ Try.func23 #[.agg #[.int .i64 ((rd_T46 l0_4 x3_2).f3.f0), .int .i64 ((rd_T46 l0_4 x3_2).f3.f1), .int .i64 ((rd_T46 l0_4 x3_2).f3.f2)]] ?_
              with_reducible refine (spec_VecTop.calls ((rd_T46 l0_4 x3_2).f3.f0) ((rd_T46 l0_4 x3_2).f3.f1) ((rd_T46 l0_4 x3_2).f3.f2) t182 _ A65.out).mono ?_
              rintro e w71 ⟨rfl, hb⟩
              refine ⟨_, rfl, ?_⟩
              replace BK169 := bb_ BK169 hb; replace BK173 := bb_ BK173 hb; replace HB := Aside0.mk (below_step (bf_ HB) hb); (try clear hb); (try clear hb2); (try clear hk); (try clear hi)
              refine hK.out _ _ ⟨bt_ BK173 0, bt_ BK173 1, bt_ BK173 2, bt_ BK173 3, bt_ BK173 4, bt_ BK173 5, bt_ BK169 0, bt_ BK169 1, bt_ BK169 2, bt_ BK169 3, bt_ BK169 4⟩ (fun hHeld => ?_)
              clear hK K
              refine norm_ (a' := ?_) ?_ ?_
              rotate_left
              ·show Act.put _ (some 91) _ = _
               simp only [Act.put, ls0_, ls1_, ls2_, i64_w, i32_w]
               rfl
              refine on_ 21 (some 94) (bs 25 22) HT_ (fun K hK => ?_)
              refine gs_ Try.func23 #[.agg #[.int .i64 a0_1, .int .i64 a0_2, .int .i64 a0_3]] ?_
              with_reducible refine (spec_VecTop.calls a0_1 a0_2 a0_3 t183 _ A66.out).mono ?_
              rintro e w72 ⟨rfl, hb⟩
              refine ⟨_, rfl, ?_⟩
              replace BK169 := bb_ BK169 hb; replace BK173 := bb_ BK173 hb; replace HB := Aside0.mk (below_step (bf_ HB) hb); (try clear hb); (try clear hb2); (try clear hk); (try clear hi)
              refine hK.out _ _ ⟨bt_ BK173 0, bt_ BK173 1, bt_ BK173 2, bt_ BK173 3, bt_ BK173 4, bt_ BK173 5, bt_ BK169 0, bt_ BK169 1, bt_ BK169 2, bt_ BK169 3, bt_ BK169 4⟩ (fun hHeld => ?_)
              clear hK K
              refine norm_ (a' := ?_) ?_ ?_
              rotate_left
              ·show Act.put _ (some 94) _ = _
               simp only [Act.put, ls0_, ls1_, ls2_, i64_w, i32_w]
               rfl
              iterate 3 (refine psn_ HT_ ?_)
              refine done_ (done_of HT_.out (by kernel_rfl)) ?_
              try go_wp2
              go_ret
              exact ⟨by first | rfl | (simp [errW_none, errW_some] <;> rfl) | (simp [*, errW_none, errW_some] <;> rfl), bf_ HB⟩
             ·rw [if_neg c67] at H
              have c67b0 : decide (t182 < t183) = false := decide_eq_false c67
              clear c67
              have H' := Aside0.mk H
              clear H
              try go_wp2
              replace BK169 := Aside0.mk (blk_drew BK169.out); replace BK173 := Aside0.mk (blk_drew BK173.out); replace HB := Aside0.mk (below_drew1 HB.out)
              refine start_ (n := 25) (S := fun w' => cw_ w' gb173 0 (.int .i64 ((rd_T46 l0_4 x3_2).f0)) ∧ cw_ w' gb173 1 (.int .i64 ((rd_T46 l0_4 x3_2).f1)) ∧ cw_ w' gb173 2 (.bool ((rd_T46 l0_4 x3_2).f2)) ∧ cw_ w' gb173 3 (.int .i64 ((rd_T46 l0_4 x3_2).f3.f0)) ∧ cw_ w' gb173 4 (.int .i64 ((rd_T46 l0_4 x3_2).f3.f1)) ∧ cw_ w' gb173 5 (.int .i64 ((rd_T46 l0_4 x3_2).f3.f2)) ∧ cw_ w' gb169 0 (.int .i64 a0_0) ∧ cw_ w' gb169 1 (.int .i64 a0_1) ∧ cw_ w' gb169 2 (.int .i64 a0_2) ∧ cw_ w' gb169 3 (.int .i64 a0_3) ∧ cw_ w' gb169 4 (.slice (some ad172) l0_4.length c0_4)) (ds := []) (bs 25 0) (by kernel_rfl) rfl rfl ⟨bt_ BK173 0, bt_ BK173 1, bt_ BK173 2, bt_ BK173 3, bt_ BK173 4, bt_ BK173 5, bt_ BK169 0, bt_ BK169 1, bt_ BK169 2, bt_ BK169 3, bt_ BK169 4⟩ (fun hHeld => ?_); refine with_tabW spec_FairOk.tab9 spec_FairOk.bits9 (fun HT_ HW_ => ?_)
              generalize wc.drew = w73 at BK169 BK173 HB hHeld ⊢
              refine psn_ HT_ ?_
              refine ps_ 3 76 (bm 25 9) HT_ ?_
              refine ps_ 6 79 (bm 25 73) HT_ ?_
              refine tk_ 1 74 (bm 25 75) HT_ HW_ hHeld ?_
              refine tk_ 4 77 (bm 25 91) HT_ HW_ hHeld ?_
              refine tk_ 7 80 (bm 25 219) HT_ HW_ hHeld ?_
              refine on_ 2 (some 75) (bm 25 223) HT_ (fun K hK => ?_)
              refine gs_ Try.func23 #[.agg #[.int .i64 ((rd_T46 l0_4 x3_2).f3.f0), .int .i64 ((rd_T46 l0_4 x3_2).f3.f1), .int .i64 ((rd_T46 l0_4 x3_2).f3.f2)]] ?_
              with_reducible refine (spec_VecTop.calls ((rd_T46 l0_4 x3_2).f3.f0) ((rd_T46 l0_4 x3_2).f3.f1) ((rd_T46 l0_4 x3_2).f3.f2) t179 _ A57.out).mono ?_
              rintro e w74 ⟨rfl, hb⟩
              refine ⟨_, rfl, ?_⟩
              replace BK169 := bb_ BK169 hb; replace BK173 := bb_ BK173 hb; replace HB := Aside0.mk (below_step (bf_ HB) hb); (try clear hb); (try clear hb2); (try clear hk); (try clear hi)
              refine hK.out _ _ ⟨bt_ BK173 0, bt_ BK173 1, bt_ BK173 2, bt_ BK173 3, bt_ BK173 4, bt_ BK173 5, bt_ BK169 0, bt_ BK169 1, bt_ BK169 2, bt_ BK169 3, bt_ BK169 4⟩ (fun hHeld => ?_)
              clear hK K
              refine norm_ (a' := ?_) ?_ ?_
              rotate_left
              ·show Act.put _ (some 75) _ = _
               simp only [Act.put, ls0_, ls1_, ls2_, i64_w, i32_w]
               rfl
              refine on_ 5 (some 78) (bs 25 8) HT_ (fun K hK => ?_)
              refine gs_ Try.func23 #[.agg #[.int .i64 a0_1, .int .i64 a0_2, .int .i64 a0_3]] ?_
              with_reducible refine (spec_VecTop.calls a0_1 a0_2 a0_3 t180 _ A58.out).mono ?_
              rintro e w75 ⟨rfl, hb⟩
              refine ⟨_, rfl, ?_⟩
              replace BK169 := bb_ BK169 hb; replace BK173 := bb_ BK173 hb; replace HB := Aside0.mk (below_step (bf_ HB) hb); (try clear hb); (try clear hb2); (try clear hk); (try clear hi)
              refine hK.out _ _ ⟨bt_ BK173 0, bt_ BK173 1, bt_ BK173 2, bt_ BK173 3, bt_ BK173 4, bt_ BK173 5, bt_ BK169 0, bt_ BK169 1, bt_ BK169 2, bt_ BK169 3, bt_ BK169 4⟩ (fun hHeld => ?_)
              clear hK K
              refine norm_ (a' := ?_) ?_ ?_
              rotate_left
              ·show Act.put _ (some 78) _ = _
               simp only [Act.put, ls0_, ls1_, ls2_, i64_w, i32_w]
               rfl
              refine on_ 8 (some 81) (bs 25 9) HT_ (fun K hK => ?_)
              refine gs_ Try.func24 #[.int .i64 ((rd_T46 l0_4 x3_2).f1)] ?_
              with_reducible refine (spec_Stride.calls ((rd_T46 l0_4 x3_2).f1) t181 _ A59.out).mono ?_
              rintro e w' ⟨rfl, ⟨nd, rfl⟩⟩
              refine ⟨_, rfl, ?_⟩
              refine hK.out _ _ ⟨bt_ BK173 0, bt_ BK173 1, bt_ BK173 2, bt_ BK173 3, bt_ BK173 4, bt_ BK173 5, bt_ BK169 0, bt_ BK169 1, bt_ BK169 2, bt_ BK169 3, bt_ BK169 4⟩ (fun hHeld => ?_)
              clear hK K
              refine norm_ (a' := ?_) ?_ ?_
              rotate_left
              ·show Act.put _ (some 81) _ = _
               simp only [Act.put, ls0_, ls1_, ls2_, i64_w, i32_w]
               rfl
              iterate 5 (refine psn_ HT_ ?_)
              refine tkn_ HT_ HW_ hHeld ?_
              iterate 2 (refine psn_ HT_ ?_)
              refine ps_ 19 92 (bm 25 655359) HT_ ?_
              refine tk_ 17 90 (bm 25 786431) HT_ HW_ hHeld ?_
              refine tk_ 20 93 (bm 25 1835007) HT_ HW_ hHeld ?_
              refine on_ 18 (some 91) (bs 25 21) HT_ (fun K hK => ?_)
              refine gs_ Try.func23 #[.agg #[.int .i64 ((rd_T46 l0_4 x3_2).f3.f0), .int .i64 ((rd_T46 l0_4 x3_2).f3.f1), .int .i64 ((rd_T46 l0_4 x3_2).f3.f2)]] ?_
              with_reducible refine (spec_VecTop.calls ((rd_T46 l0_4 x3_2).f3.f0) ((rd_T46 l0_4 x3_2).f3.f1) ((rd_T46 l0_4 x3_2).f3.f2) t182 _ A65.out).mono ?_
              rintro e w76 ⟨rfl, hb⟩
              refine ⟨_, rfl, ?_⟩
              replace BK169 := bb_ BK169 hb; replace BK173 := bb_ BK173 hb; replace HB := Aside0.mk (below_step (bf_ HB) hb); (try clear hb); (try clear hb2); (try clear hk); (try clear hi)
              refine hK.out _ _ ⟨bt_ BK173 0, bt_ BK173 1, bt_ BK173 2, bt_ BK173 3, bt_ BK173 4, bt_ BK173 5, bt_ BK169 0, bt_ BK169 1, bt_ BK169 2, bt_ BK169 3, bt_ BK169 4⟩ (fun hHeld => ?_)
              clear hK K
              refine norm_ (a' := ?_) ?_ ?_
              rotate_left
              ·show Act.put _ (some 91) _ = _
               simp only [Act.put, ls0_, ls1_, ls2_, i64_w, i32_w]
               rfl
              refine on_ 21 (some 94) (bs 25 22) HT_ (fun K hK => ?_)
              refine gs_ Try.func23 #[.agg #[.int .i64 a0_1, .int .i64 a0_2, .int .i64 a0_3]] ?_
              with_reducible refine (spec_VecTop.calls a0_1 a0_2 a0_3 t183 _ A66.out).mono ?_
              rintro e w77 ⟨rfl, hb⟩
              refine ⟨_, rfl, ?_⟩
              replace BK169 := bb_ BK169 hb; replace BK173 := bb_ BK173 hb; replace HB := Aside0.mk (below_step (bf_ HB) hb); (try clear hb); (try clear hb2); (try clear hk); (try clear hi)
              refine hK.out _ _ ⟨bt_ BK173 0, bt_ BK173 1, bt_ BK173 2, bt_ BK173 3, bt_ BK173 4, bt_ BK173 5, bt_ BK169 0, bt_ BK169 1, bt_ BK169 2, bt_ BK169 3, bt_ BK169 4⟩ (fun hHeld => ?_)
              clear hK K
              refine norm_ (a' := ?_) ?_ ?_
              rotate_left
              ·show Act.put _ (some 94) _ = _
               simp only [Act.put, ls0_, ls1_, ls2_, i64_w, i32_w]
               rfl
              iterate 3 (refine psn_ HT_ ?_)
              refine done_ (done_of HT_.out (by kernel_rfl)) ?_
              try go_wp2
              go_roundg kj21
              case measure => have := HJ1.out; have := HK2.out; have := HJ21.out; omega
              case rel => exact ⟨(wrap64 (x3_2 + 1)), (by first | rfl | (simp; done) | (simp [*]; done)), H', ⟨by have := HJ1.out; have := HK2.out; have := HJ21.out; omega⟩, ⟨bk_ BK169⟩, ⟨bf_ HB⟩⟩
            ·rw [if_neg c64] at H
             have c64b0 : ((rd_T46 l0_4 x3_2).f2) = false := by simpa using c64
             clear c64
             have H' := Aside0.mk H
             clear H
             try go_wp2
             replace BK169 := Aside0.mk (blk_drew BK169.out); replace BK173 := Aside0.mk (blk_drew BK173.out); replace HB := Aside0.mk (below_drew1 HB.out)
             refine start_ (n := 25) (S := fun w' => cw_ w' gb173 0 (.int .i64 ((rd_T46 l0_4 x3_2).f0)) ∧ cw_ w' gb173 1 (.int .i64 ((rd_T46 l0_4 x3_2).f1)) ∧ cw_ w' gb173 2 (.bool ((rd_T46 l0_4 x3_2).f2)) ∧ cw_ w' gb173 3 (.int .i64 ((rd_T46 l0_4 x3_2).f3.f0)) ∧ cw_ w' gb173 4 (.int .i64 ((rd_T46 l0_4 x3_2).f3.f1)) ∧ cw_ w' gb173 5 (.int .i64 ((rd_T46 l0_4 x3_2).f3.f2)) ∧ cw_ w' gb169 0 (.int .i64 a0_0) ∧ cw_ w' gb169 1 (.int .i64 a0_1) ∧ cw_ w' gb169 2 (.int .i64 a0_2) ∧ cw_ w' gb169 3 (.int .i64 a0_3) ∧ cw_ w' gb169 4 (.slice (some ad172) l0_4.length c0_4)) (ds := []) (bs 25 0) (by kernel_rfl) rfl rfl ⟨bt_ BK173 0, bt_ BK173 1, bt_ BK173 2, bt_ BK173 3, bt_ BK173 4, bt_ BK173 5, bt_ BK169 0, bt_ BK169 1, bt_ BK169 2, bt_ BK169 3, bt_ BK169 4⟩ (fun hHeld => ?_); refine with_tabW spec_FairOk.tab9 spec_FairOk.bits9 (fun HT_ HW_ => ?_)
             generalize wc.drew = w78 at BK169 BK173 HB hHeld ⊢
             refine psn_ HT_ ?_
             refine ps_ 3 76 (bm 25 9) HT_ ?_
             refine ps_ 6 79 (bm 25 73) HT_ ?_
             refine tk_ 1 74 (bm 25 75) HT_ HW_ hHeld ?_
             refine tk_ 4 77 (bm 25 91) HT_ HW_ hHeld ?_
             refine tk_ 7 80 (bm 25 219) HT_ HW_ hHeld ?_
             refine on_ 2 (some 75) (bm 25 223) HT_ (fun K hK => ?_)
             refine gs_ Try.func23 #[.agg #[.int .i64 ((rd_T46 l0_4 x3_2).f3.f0), .int .i64 ((rd_T46 l0_4 x3_2).f3.f1), .int .i64 ((rd_T46 l0_4 x3_2).f3.f2)]] ?_
             with_reducible refine (spec_VecTop.calls ((rd_T46 l0_4 x3_2).f3.f0) ((rd_T46 l0_4 x3_2).f3.f1) ((rd_T46 l0_4 x3_2).f3.f2) t179 _ A57.out).mono ?_
             rintro e w79 ⟨rfl, hb⟩
             refine ⟨_, rfl, ?_⟩
             replace BK169 := bb_ BK169 hb; replace BK173 := bb_ BK173 hb; replace HB := Aside0.mk (below_step (bf_ HB) hb); (try clear hb); (try clear hb2); (try clear hk); (try clear hi)
             refine hK.out _ _ ⟨bt_ BK173 0, bt_ BK173 1, bt_ BK173 2, bt_ BK173 3, bt_ BK173 4, bt_ BK173 5, bt_ BK169 0, bt_ BK169 1, bt_ BK169 2, bt_ BK169 3, bt_ BK169 4⟩ (fun hHeld => ?_)
             clear hK K
             refine norm_ (a' := ?_) ?_ ?_
             rotate_left
             ·show Act.put _ (some 75) _ = _
              simp only [Act.put, ls0_, ls1_, ls2_, i64_w, i32_w]
              rfl
             refine on_ 5 (some 78) (bs 25 8) HT_ (fun K hK => ?_)
             refine gs_ Try.func23 #[.agg #[.int .i64 a0_1, .int .i64 a0_2, .int .i64 a0_3]] ?_
             with_reducible refine (spec_VecTop.calls a0_1 a0_2 a0_3 t180 _ A58.out).mono ?_
             rintro e w80 ⟨rfl, hb⟩
             refine ⟨_, rfl, ?_⟩
             replace BK169 := bb_ BK169 hb; replace BK173 := bb_ BK173 hb; replace HB := Aside0.mk (below_step (bf_ HB) hb); (try clear hb); (try clear hb2); (try clear hk); (try clear hi)
             refine hK.out _ _ ⟨bt_ BK173 0, bt_ BK173 1, bt_ BK173 2, bt_ BK173 3, bt_ BK173 4, bt_ BK173 5, bt_ BK169 0, bt_ BK169 1, bt_ BK169 2, bt_ BK169 3, bt_ BK169 4⟩ (fun hHeld => ?_)
             clear hK K
             refine norm_ (a' := ?_) ?_ ?_
             rotate_left
             ·show Act.put _ (some 78) _ = _
              simp only [Act.put, ls0_, ls1_, ls2_, i64_w, i32_w]
              rfl
             refine on_ 8 (some 81) (bs 25 9) HT_ (fun K hK => ?_)
             refine gs_ Try.func24 #[.int .i64 ((rd_T46 l0_4 x3_2).f1)] ?_
             with_reducible refine (spec_Stride.calls ((rd_T46 l0_4 x3_2).f1) t181 _ A59.out).mono ?_
             rintro e w' ⟨rfl, ⟨nd, rfl⟩⟩
             refine ⟨_, rfl, ?_⟩
             refine hK.out _ _ ⟨bt_ BK173 0, bt_ BK173 1, bt_ BK173 2, bt_ BK173 3, bt_ BK173 4, bt_ BK173 5, bt_ BK169 0, bt_ BK169 1, bt_ BK169 2, bt_ BK169 3, bt_ BK169 4⟩ (fun hHeld => ?_)
             clear hK K
             refine norm_ (a' := ?_) ?_ ?_
             rotate_left
             ·show Act.put _ (some 81) _ = _
              simp only [Act.put, ls0_, ls1_, ls2_, i64_w, i32_w]
              rfl
             iterate 5 (refine psn_ HT_ ?_)
             refine tkn_ HT_ HW_ hHeld ?_
             refine psn_ HT_ ?_
             iterate 7 (refine pun_ HT_ ?_)
             iterate 2 (refine psn_ HT_ ?_)
             refine done_ (done_of HT_.out (by kernel_rfl)) ?_
             try go_wp2
             go_roundg kj21
             case measure => have := HJ1.out; have := HK2.out; have := HJ21.out; omega
             case rel => exact ⟨(wrap64 (x3_2 + 1)), (by first | rfl | (simp; done) | (simp [*]; done)), H', ⟨by have := HJ1.out; have := HK2.out; have := HJ21.out; omega⟩, ⟨bk_ BK169⟩, ⟨bf_ HB⟩⟩
       ·rw [if_neg c21] at H
        exact absurd H (by simp)
      ·rw [if_neg c20] at H
       have c20b0 : decide (x3_2 < (l0_4.length : Int)) = false := decide_eq_false c20
       clear c20
       obtain rfl := Option.some.inj H
       obtain ⟨hcz81_0, hcz81_1, hcz81_2, hcz81_3, hcz81_4, hfz81_0, hfz81_1, hfz81_2, hfz81_3, hfz81_4⟩ := bz5_ BK169
       go_wp2
       go_ret
       exact ⟨by first | rfl | (simp [errW_none, errW_some] <;> rfl) | (simp [*, errW_none, errW_some] <;> rfl), bf_ HB⟩

end Go.Proofs.Ytppmbdfbhahngaa.PFnExactFairJoin
