-- printed by a program of this session (wip/printx) out of the translation; Lean checks it
import Derived.Test.YtljhaoiopokmfaaVFnExactFairServe
import Derived.Test.YtljhaoiopokmfaaPFnExactFairServex0
import Derived.Test.YtljhaoiopokmfaaPFnExactFairServex7
import Derived.Test.YtljhaoiopokmfaaPFnExactFairServex8
namespace Go.Proofs.Ytljhaoiopokmfaa.PFnExactFairServe
open Go.RowKit Go.Proofs.YtljhaoiopokmfaaW.PrintWords Go.Proofs.YtljhaoiopokmfaaW.PrintLast Go.Proofs.YtljhaoiopokmfaaW.PrintMore
attribute [local go_sem] max2_int min2_int max_two min_two max_three min_three max_four min_four   -- for this text's walks alone
set_option linter.unusedVariables false
set_option linter.unusedSimpArgs false

/-! ### spec_FairOk: function 16 -/
mutual
def spec_FairOk.j0 : Nat → Bool → Int → Int → Int → Int → List (S38) → Option (Bool)
  | 0, _, _, _, _, _, _ => none
  | k + 1, x22, x282000, x282001, x282002, x282003, x282004 => if x22 = true then (some false) else (spec_FairOk.l0 k 0 x282000 x282001 x282002 x282003 x282004)
def spec_FairOk.l0 : Nat → Int → Int → Int → Int → Int → List (S38) → Option (Bool)
  | 0, _, _, _, _, _, _ => none
  | k + 1, x3, x282000, x282001, x282002, x282003, x282004 => if x3 < (x282004.length : Int) then (if 0 ≤ x3 then (if ((rd_T38 x282004 x3).f0) < 0 then (spec_FairOk.j2 k x3 true x282000 x282001 x282002 x282003 x282004 ((rd_T38 x282004 x3).f0) ((rd_T38 x282004 x3).f1) ((rd_T38 x282004 x3).f2) ((rd_T38 x282004 x3).f3.f0) ((rd_T38 x282004 x3).f3.f1) ((rd_T38 x282004 x3).f3.f2)) else (if ((rd_T38 x282004 x3).f0) > 9999 then (spec_FairOk.j2 k x3 true x282000 x282001 x282002 x282003 x282004 ((rd_T38 x282004 x3).f0) ((rd_T38 x282004 x3).f1) ((rd_T38 x282004 x3).f2) ((rd_T38 x282004 x3).f3.f0) ((rd_T38 x282004 x3).f3.f1) ((rd_T38 x282004 x3).f3.f2)) else (if x3 > 0 then (if 0 ≤ (wrap64 (x3 - 1)) then (if (wrap64 (x3 - 1)) < (x282004.length : Int) then (if ((rd_T38 x282004 (wrap64 (x3 - 1))).f0) ≥ ((rd_T38 x282004 x3).f0) then (spec_FairOk.j2 k x3 true x282000 x282001 x282002 x282003 x282004 ((rd_T38 x282004 x3).f0) ((rd_T38 x282004 x3).f1) ((rd_T38 x282004 x3).f2) ((rd_T38 x282004 x3).f3.f0) ((rd_T38 x282004 x3).f3.f1) ((rd_T38 x282004 x3).f3.f2)) else ((spec_Stride.f ((rd_T38 x282004 x3).f1)).bind fun t287 => (if t287 = 0 then (spec_FairOk.j2 k x3 true x282000 x282001 x282002 x282003 x282004 ((rd_T38 x282004 x3).f0) ((rd_T38 x282004 x3).f1) ((rd_T38 x282004 x3).f2) ((rd_T38 x282004 x3).f3.f0) ((rd_T38 x282004 x3).f3.f1) ((rd_T38 x282004 x3).f3.f2)) else ((spec_Narrow.f ((rd_T38 x282004 x3).f3.f0) ((rd_T38 x282004 x3).f3.f1) ((rd_T38 x282004 x3).f3.f2) x282000).bind fun t288 => (spec_FairOk.j2 k x3 (!t288) x282000 x282001 x282002 x282003 x282004 ((rd_T38 x282004 x3).f0) ((rd_T38 x282004 x3).f1) ((rd_T38 x282004 x3).f2) ((rd_T38 x282004 x3).f3.f0) ((rd_T38 x282004 x3).f3.f1) ((rd_T38 x282004 x3).f3.f2)))))) else (none)) else (none)) else ((spec_Stride.f ((rd_T38 x282004 x3).f1)).bind fun t289 => (if t289 = 0 then (spec_FairOk.j2 k x3 true x282000 x282001 x282002 x282003 x282004 ((rd_T38 x282004 x3).f0) ((rd_T38 x282004 x3).f1) ((rd_T38 x282004 x3).f2) ((rd_T38 x282004 x3).f3.f0) ((rd_T38 x282004 x3).f3.f1) ((rd_T38 x282004 x3).f3.f2)) else ((spec_Narrow.f ((rd_T38 x282004 x3).f3.f0) ((rd_T38 x282004 x3).f3.f1) ((rd_T38 x282004 x3).f3.f2) x282000).bind fun t290 => (spec_FairOk.j2 k x3 (!t290) x282000 x282001 x282002 x282003 x282004 ((rd_T38 x282004 x3).f0) ((rd_T38 x282004 x3).f1) ((rd_T38 x282004 x3).f2) ((rd_T38 x282004 x3).f3.f0) ((rd_T38 x282004 x3).f3.f1) ((rd_T38 x282004 x3).f3.f2)))))))) else (none)) else (some true)
def spec_FairOk.j2 : Nat → Int → Bool → Int → Int → Int → Int → List (S38) → Int → Int → Bool → Int → Int → Int → Option (Bool)
  | 0, _, _, _, _, _, _, _, _, _, _, _, _, _ => none
  | k + 1, x3, x72, x282000, x282001, x282002, x282003, x282004, x286000, x286001, x286002, x286003, x286004, x286005 => if x72 = true then (some false) else ((spec_VecTop.f x286003 x286004 x286005).bind fun t291 => ((spec_VecTop.f x282001 x282002 x282003).bind fun t292 => ((spec_Stride.f x286001).bind fun t293 => (if t291 > (wrap64 (t292 + (wrap64 (t293 * 2000)))) then (some false) else (if x286002 = true then ((spec_VecTop.f x286003 x286004 x286005).bind fun t294 => ((spec_VecTop.f x282001 x282002 x282003).bind fun t295 => (if t294 < t295 then (some false) else (spec_FairOk.l0 k (wrap64 (x3 + 1)) x282000 x282001 x282002 x282003 x282004)))) else (spec_FairOk.l0 k (wrap64 (x3 + 1)) x282000 x282001 x282002 x282003 x282004))))))
end
def spec_FairOk.f (k : Nat) (a0_0 : Int) (a0_1 : Int) (a0_2 : Int) (a0_3 : Int) (l0_4 : List (S38)) : Option (Bool) := (spec_Narrow.f a0_1 a0_2 a0_3 a0_0).bind fun t282 => (if t282 = true then ((spec_VecTop.f a0_1 a0_2 a0_3).bind fun t283 => (if t283 > 100000000000 then (spec_FairOk.j0 k true a0_0 a0_1 a0_2 a0_3 l0_4) else (spec_FairOk.j0 k (decide ((l0_4.length : Int) > 48)) a0_0 a0_1 a0_2 a0_3 l0_4))) else (spec_FairOk.j0 k true a0_0 a0_1 a0_2 a0_3 l0_4))
theorem spec_FairOk.mono_l : ∀ k, (∀ y0 y1 y2 y3 y4 y5, LeO (spec_FairOk.j0 k y0 y1 y2 y3 y4 y5) (spec_FairOk.j0 (k + 1) y0 y1 y2 y3 y4 y5)) ∧ (∀ y0 y1 y2 y3 y4 y5, LeO (spec_FairOk.l0 k y0 y1 y2 y3 y4 y5) (spec_FairOk.l0 (k + 1) y0 y1 y2 y3 y4 y5)) ∧ (∀ y0 y1 y2 y3 y4 y5 y6 y7 y8 y9 y10 y11 y12, LeO (spec_FairOk.j2 k y0 y1 y2 y3 y4 y5 y6 y7 y8 y9 y10 y11 y12) (spec_FairOk.j2 (k + 1) y0 y1 y2 y3 y4 y5 y6 y7 y8 y9 y10 y11 y12))
 | 0 => ⟨fun _ _ _ _ _ _ r h => by simp [spec_FairOk.j0] at h, fun _ _ _ _ _ _ r h => by simp [spec_FairOk.l0] at h, fun _ _ _ _ _ _ _ _ _ _ _ _ _ r h => by simp [spec_FairOk.j2] at h⟩
 | k + 1 => by
  obtain ⟨ih0, ih1, ih2⟩ := spec_FairOk.mono_l k
  refine ⟨?_, ?_, ?_⟩
  ·intro y0 y1 y2 y3 y4 y5
   unfold spec_FairOk.j0
   repeat' first
   | (with_reducible exact ih0 _ _ _ _ _ _)
   | (with_reducible exact ih1 _ _ _ _ _ _)
   | (with_reducible exact ih2 _ _ _ _ _ _ _ _ _ _ _ _ _)
   | (with_reducible exact LeO.refl _)
   | (with_reducible exact LeO.none _)
   | (with_reducible refine LeO.ite ?_ ?_)
   | (with_reducible refine LeO.bind ?_ (fun _ => ?_))
   | exact ih0 _ _ _ _ _ _
   | exact ih1 _ _ _ _ _ _
   | exact ih2 _ _ _ _ _ _ _ _ _ _ _ _ _
   | exact LeO.none _
   | refine LeO.ite ?_ ?_
   | refine LeO.bind ?_ (fun _ => ?_)
  ·intro y0 y1 y2 y3 y4 y5
   unfold spec_FairOk.l0
   repeat' first
   | (with_reducible exact ih0 _ _ _ _ _ _)
   | (with_reducible exact ih1 _ _ _ _ _ _)
   | (with_reducible exact ih2 _ _ _ _ _ _ _ _ _ _ _ _ _)
   | (with_reducible exact LeO.refl _)
   | (with_reducible exact LeO.none _)
   | (with_reducible refine LeO.ite ?_ ?_)
   | (with_reducible refine LeO.bind ?_ (fun _ => ?_))
   | exact ih0 _ _ _ _ _ _
   | exact ih1 _ _ _ _ _ _
   | exact ih2 _ _ _ _ _ _ _ _ _ _ _ _ _
   | exact LeO.none _
   | refine LeO.ite ?_ ?_
   | refine LeO.bind ?_ (fun _ => ?_)
  ·intro y0 y1 y2 y3 y4 y5 y6 y7 y8 y9 y10 y11 y12
   unfold spec_FairOk.j2
   repeat' first
   | (with_reducible exact ih0 _ _ _ _ _ _)
   | (with_reducible exact ih1 _ _ _ _ _ _)
   | (with_reducible exact ih2 _ _ _ _ _ _ _ _ _ _ _ _ _)
   | (with_reducible exact LeO.refl _)
   | (with_reducible exact LeO.none _)
   | (with_reducible refine LeO.ite ?_ ?_)
   | (with_reducible refine LeO.bind ?_ (fun _ => ?_))
   | exact ih0 _ _ _ _ _ _
   | exact ih1 _ _ _ _ _ _
   | exact ih2 _ _ _ _ _ _ _ _ _ _ _ _ _
   | exact LeO.none _
   | refine LeO.ite ?_ ?_
   | refine LeO.bind ?_ (fun _ => ?_)
theorem spec_FairOk.mono : ∀ a0 a1 a2 a3 a4 k, LeO (spec_FairOk.f k a0 a1 a2 a3 a4) (spec_FairOk.f (k + 1) a0 a1 a2 a3 a4) := by
 intro a0 a1 a2 a3 a4 k
 obtain ⟨ih0, ih1, ih2⟩ := spec_FairOk.mono_l k
 unfold spec_FairOk.f
 repeat' first
   | (with_reducible exact ih0 _ _ _ _ _ _)
   | (with_reducible exact ih1 _ _ _ _ _ _)
   | (with_reducible exact ih2 _ _ _ _ _ _ _ _ _ _ _ _ _)
   | (with_reducible exact LeO.refl _)
   | (with_reducible exact LeO.none _)
   | (with_reducible refine LeO.ite ?_ ?_)
   | (with_reducible refine LeO.bind ?_ (fun _ => ?_))
   | exact ih0 _ _ _ _ _ _
   | exact ih1 _ _ _ _ _ _
   | exact ih2 _ _ _ _ _ _ _ _ _ _ _ _ _
   | exact LeO.none _
   | refine LeO.ite ?_ ?_
   | refine LeO.bind ?_ (fun _ => ?_)
def spec_FairOk.T7 : Bool × List (List Nat × List Nat) := (true, [([], []), ([0], [0]), ([1], [1]), ([2], [2]), ([3], [3]), ([4, 3], [3, 4]), ([5, 3], [3, 5]), ([3, 6], [3, 6]), ([7, 3], [7]), ([8], [8]), ([9, 8], [8, 9]), ([10, 8, 8], [8, 10]), ([11], [11]), ([12, 11], [11, 12]), ([11], [11]), ([14, 11], [11, 14]), ([13, 15, 11], [11, 13, 15]), ([16, 11], [11, 16]), ([17, 11], [11, 17]), ([11], [11]), ([19, 11], [11, 19]), ([18, 20, 11], [11, 18, 20]), ([11, 21, 8], [8, 11, 21]), ([8, 22], [8, 22]), ([23, 11], [23]), ([24], [24]), ([25, 24], [24, 25]), ([26, 24, 24], [24, 26]), ([27, 24], [24, 27]), ([24, 28], [24, 28]), ([29, 27], [29]), ([30], [30]), ([31, 30], [30, 31]), ([30], [30]), ([33, 30], [30, 33]), ([32, 34, 30, 30], [30, 32, 34]), ([35, 30], [30, 35]), ([30, 36], [30, 36])])
def spec_FairOk.B7 : List Nat := [0, 1, 3, 7, 15, 31, 63, 127, 255, 511, 1023, 2047, 4095, 8191, 4095, 20479, 65535, 131071, 262143, 4095, 528383, 2097151, 4194303, 8388607, 16777215, 33554431, 67108863, 134217727, 268435455, 536870911, 1073741823, 2147483647, 4294967295, 2147483647, 10737418239, 34359738367, 68719476735, 137438953471]
theorem spec_FairOk.tab7 : rtab .any (opsOf Try.f16 7) = spec_FairOk.T7 := by kernel_rfl
theorem spec_FairOk.bits7 : waitsOk spec_FairOk.T7.2 spec_FairOk.B7 = true := by kernel_rfl
def spec_FairOk.T9 : Bool × List (List Nat × List Nat) := (true, [([], []), ([0], [0]), ([1], [1]), ([], []), ([3], [3]), ([4, 2], [4]), ([], []), ([6], [6]), ([7, 5], [7]), ([8], [8]), ([5, 9], [5, 9]), ([2, 10], [2, 10]), ([11, 8], [11]), ([12], [12]), ([13, 12], [12, 13]), ([14, 12, 12], [12, 14]), ([15], [15]), ([16, 15], [15, 16]), ([17, 15, 15], [15, 17]), ([15], [15]), ([19, 15], [15, 19]), ([20, 18, 15], [15, 20]), ([18, 21, 15], [15, 18, 21]), ([15, 22, 12], [12, 15, 22]), ([12, 23], [12, 23])])
def spec_FairOk.B9 : List Nat := [0, 1, 3, 0, 8, 31, 0, 64, 255, 511, 1023, 2047, 4095, 8191, 16383, 32767, 65535, 131071, 262143, 65535, 589823, 2097151, 4194303, 8388607, 16777215]
theorem spec_FairOk.tab9 : rtab .any (opsOf Try.f16 9) = spec_FairOk.T9 := by kernel_rfl
theorem spec_FairOk.bits9 : waitsOk spec_FairOk.T9.2 spec_FairOk.B9 = true := by kernel_rfl
set_option maxHeartbeats 8000000 in
set_option maxRecDepth 100000 in
theorem spec_FairOk.calls (k : Nat) (a0_0 : Int) (a0_1 : Int) (a0_2 : Int) (a0_3 : Int) (A0_4 : Option Addr) (c0_4 : Nat) (l0_4 : List (S38)) (r : Bool) (w : World) (hr0_4 : Kd.C k38 w A0_4 l0_4.length l0_4) (hc0_4 : l0_4.length ≤ c0_4) (h : spec_FairOk.f k a0_0 a0_1 a0_2 a0_3 l0_4 = some r) :
  Calls Try.prog 16 #[.agg #[.int .i64 a0_0, .int .i64 a0_1, .int .i64 a0_2, .int .i64 a0_3, .slice A0_4 l0_4.length c0_4]] w fun e w' => e = .returned (.bool r) ∧ Below w.heap.size w w' := by
 have hu32 := Try.underlying32; have hu29 := Try.underlying29; have hu38 := Try.underlying38
 have HR0_4 := Aside0.mk hr0_4
 have HC0_4 := Aside0.mk hc0_4
 clear hr0_4 hc0_4; have HB := Aside0.mk (Below.refl w.heap.size w)
 have H : ((spec_Narrow.f a0_1 a0_2 a0_3 a0_0).bind fun t282 => (if t282 = true then ((spec_VecTop.f a0_1 a0_2 a0_3).bind fun t283 => (if t283 > 100000000000 then (spec_FairOk.j0 k true a0_0 a0_1 a0_2 a0_3 l0_4) else (spec_FairOk.j0 k (decide ((l0_4.length : Int) > 48)) a0_0 a0_1 a0_2 a0_3 l0_4))) else (spec_FairOk.j0 k true a0_0 a0_1 a0_2 a0_3 l0_4))) = some r := h
 clear h
 have HC2 := Aside0.mk H
 clear H
 go_enter Try.func16, Try.ntmps16
 go_upto_region 1 with (first | ((with_reducible refine gd_ 1 rfl ?_); (try (refine gate_guard (by rfl) ?_; dsimp only)); refine bv_ 1 #[.int .i64 a0_0, .int .i64 a0_1, .int .i64 a0_2, .int .i64 a0_3, .slice A0_4 l0_4.length c0_4] 32 ?_; intro gb281 hg w3 hbox hb; have BK281 := Aside0.mk (hbox); have GW281 := gw_ HB hg; have GE281 := gw_ HB hg; replace HB := Aside0.mk (below_step (be_ HB) hb); clear hb hbox hg))
 (try simp only [Act.put, ls0_, ls1_, ls2_])
 go_cut [22] (fun v22 wc => ∃ (kq : Nat) (x22_1 : Bool), v22 = .bool x22_1 ∧ Aside0 (spec_FairOk.j0 kq x22_1 a0_0 a0_1 a0_2 a0_3 l0_4 = some r) ∧ Aside0 (kq ≤ k) ∧ Aside0 (wc.heap[gb281]? = some (.cells #[.int .i64 a0_0, .int .i64 a0_1, .int .i64 a0_2, .int .i64 a0_3, (.slice A0_4 l0_4.length c0_4)] 32 (0, 0))) ∧ Aside0 (Below w.heap.size w wc))
 case first =>
  have H := HC2.out
  clear HC2
  replace H := Option.bind_eq_some_iff.mp H
  obtain ⟨t282, A40, H⟩ := H
  replace H : (if t282 = true then ((spec_VecTop.f a0_1 a0_2 a0_3).bind fun t283 => (if t283 > 100000000000 then (spec_FairOk.j0 k true a0_0 a0_1 a0_2 a0_3 l0_4) else (spec_FairOk.j0 k (decide ((l0_4.length : Int) > 48)) a0_0 a0_1 a0_2 a0_3 l0_4))) else (spec_FairOk.j0 k true a0_0 a0_1 a0_2 a0_3 l0_4)) = some r := H
  have A4 := Aside0.mk A40
  clear A40
  by_cases c5 : t282 = true
  ·subst c5
   have H1 : ((spec_VecTop.f a0_1 a0_2 a0_3).bind fun t283 => (if t283 > 100000000000 then (spec_FairOk.j0 k true a0_0 a0_1 a0_2 a0_3 l0_4) else (spec_FairOk.j0 k (decide ((l0_4.length : Int) > 48)) a0_0 a0_1 a0_2 a0_3 l0_4))) = some r := by rw [if_pos rfl] at H; exact H
   clear H
   have H := H1
   clear H1
   replace H := Option.bind_eq_some_iff.mp H
   obtain ⟨t283, A60, H⟩ := H
   replace H : (if t283 > 100000000000 then (spec_FairOk.j0 k true a0_0 a0_1 a0_2 a0_3 l0_4) else (spec_FairOk.j0 k (decide ((l0_4.length : Int) > 48)) a0_0 a0_1 a0_2 a0_3 l0_4)) = some r := H
   have A6 := Aside0.mk A60
   clear A60
   by_cases c7 : t283 > 100000000000
   ·rw [if_pos c7] at H
    have c7b0 : decide (100000000000 < t283) = true := decide_eq_true c7
    clear c7
    (first | rw [c7b0] | (simp only [i64_w, i32_w]; rw [c7b0]) | skip)
    have H' := Aside0.mk H
    clear H; obtain ⟨hcz8_0, hcz8_1, hcz8_2, hcz8_3, hcz8_4, hfz8_0, hfz8_1, hfz8_2, hfz8_3, hfz8_4⟩ := bz5_ BK281
    go_wp2_with (first | ((with_reducible refine gc_ 49 rfl ?_); refine gl_ 9 Try.func49 #[.agg #[.int .i64 a0_1, .int .i64 a0_2, .int .i64 a0_3], .int .i64 a0_0] ?_; (with_reducible refine (spec_Narrow.calls a0_1 a0_2 a0_3 a0_0 true _ A4.out).mono ?_); rintro e w9 ⟨rfl, hb⟩; refine ⟨_, rfl, ?_⟩; replace BK281 := bb_ BK281 hb; replace HB := Aside0.mk (below_step (bf_ HB) hb); (try clear hb); (try clear hb2); (try clear hk); (try clear hi); obtain ⟨hcz10_0, hcz10_1, hcz10_2, hcz10_3, hcz10_4, hfz10_0, hfz10_1, hfz10_2, hfz10_3, hfz10_4⟩ := bz5_ BK281) | (go_at_call 40; (with_reducible refine (spec_VecTop.calls a0_1 a0_2 a0_3 t283 _ A6.out).mono ?_); rintro e w11 ⟨rfl, hb⟩; replace BK281 := bb_ BK281 hb; replace HB := Aside0.mk (below_step (bf_ HB) hb); (try clear hb); (try clear hb2); (try clear hk); (try clear hi)))
    go_meet
    case rel => exact ⟨_, (true), (by first | rfl | (simp; done) | (simp [*]; done)), H', ⟨by first | omega | exact Nat.le_refl _⟩, ⟨bk_ BK281⟩, ⟨bf_ HB⟩⟩
   ·rw [if_neg c7] at H
    have c7b0 : decide (100000000000 < t283) = false := decide_eq_false c7
    clear c7
    (first | rw [c7b0] | (simp only [i64_w, i32_w]; rw [c7b0]) | skip)
    have H' := Aside0.mk H
    clear H; obtain ⟨hcz12_0, hcz12_1, hcz12_2, hcz12_3, hcz12_4, hfz12_0, hfz12_1, hfz12_2, hfz12_3, hfz12_4⟩ := bz5_ BK281
    go_wp2_with (first | ((with_reducible refine gc_ 49 rfl ?_); refine gl_ 9 Try.func49 #[.agg #[.int .i64 a0_1, .int .i64 a0_2, .int .i64 a0_3], .int .i64 a0_0] ?_; (with_reducible refine (spec_Narrow.calls a0_1 a0_2 a0_3 a0_0 true _ A4.out).mono ?_); rintro e w13 ⟨rfl, hb⟩; refine ⟨_, rfl, ?_⟩; replace BK281 := bb_ BK281 hb; replace HB := Aside0.mk (below_step (bf_ HB) hb); (try clear hb); (try clear hb2); (try clear hk); (try clear hi); obtain ⟨hcz14_0, hcz14_1, hcz14_2, hcz14_3, hcz14_4, hfz14_0, hfz14_1, hfz14_2, hfz14_3, hfz14_4⟩ := bz5_ BK281) | (go_at_call 40; (with_reducible refine (spec_VecTop.calls a0_1 a0_2 a0_3 t283 _ A6.out).mono ?_); rintro e w15 ⟨rfl, hb⟩; replace BK281 := bb_ BK281 hb; replace HB := Aside0.mk (below_step (bf_ HB) hb); (try clear hb); (try clear hb2); (try clear hk); (try clear hi); obtain ⟨hcz16_0, hcz16_1, hcz16_2, hcz16_3, hcz16_4, hfz16_0, hfz16_1, hfz16_2, hfz16_3, hfz16_4⟩ := bz5_ BK281))
    go_meet
    case rel => exact ⟨_, (decide ((l0_4.length : Int) > 48)), (by first | rfl | (simp; done) | (simp [*]; done)), H', ⟨by first | omega | exact Nat.le_refl _⟩, ⟨bk_ BK281⟩, ⟨bf_ HB⟩⟩
  ·replace c5 := Bool.eq_false_iff.mpr c5
   subst c5
   have H1 : (spec_FairOk.j0 k true a0_0 a0_1 a0_2 a0_3 l0_4) = some r := by rw [if_neg (show ¬ (false = true) by decide)] at H; exact H
   clear H
   have H := H1
   clear H1
   have H' := Aside0.mk H
   clear H; obtain ⟨hcz17_0, hcz17_1, hcz17_2, hcz17_3, hcz17_4, hfz17_0, hfz17_1, hfz17_2, hfz17_3, hfz17_4⟩ := bz5_ BK281
   go_wp2_with (first | ((with_reducible refine gc_ 49 rfl ?_); refine gl_ 9 Try.func49 #[.agg #[.int .i64 a0_1, .int .i64 a0_2, .int .i64 a0_3], .int .i64 a0_0] ?_; (with_reducible refine (spec_Narrow.calls a0_1 a0_2 a0_3 a0_0 false _ A4.out).mono ?_); rintro e w18 ⟨rfl, hb⟩; refine ⟨_, rfl, ?_⟩; replace BK281 := bb_ BK281 hb; replace HB := Aside0.mk (below_step (bf_ HB) hb); (try clear hb); (try clear hb2); (try clear hk); (try clear hi)))
   go_meet
   case rel => exact ⟨_, (true), (by first | rfl | (simp; done) | (simp [*]; done)), H', ⟨by first | omega | exact Nat.le_refl _⟩, ⟨bk_ BK281⟩, ⟨bf_ HB⟩⟩
 case rest =>
  clear HC2; (try clear c1); (try clear p2); (try clear c4); (try clear c5); (try clear c7); (try clear c7b0); (try clear c16); (try clear hcz10_0 hcz10_1 hcz10_2 hcz10_3 hcz10_4 hfz10_0 hfz10_1 hfz10_2 hfz10_3 hfz10_4); (try clear hcz12_0 hcz12_1 hcz12_2 hcz12_3 hcz12_4 hfz12_0 hfz12_1 hfz12_2 hfz12_3 hfz12_4); (try clear hcz14_0 hcz14_1 hcz14_2 hcz14_3 hcz14_4 hfz14_0 hfz14_1 hfz14_2 hfz14_3 hfz14_4); (try clear hcz16_0 hcz16_1 hcz16_2 hcz16_3 hcz16_4 hfz16_0 hfz16_1 hfz16_2 hfz16_3 hfz16_4); (try clear hcz17_0 hcz17_1 hcz17_2 hcz17_3 hcz17_4 hfz17_0 hfz17_1 hfz17_2 hfz17_3 hfz17_4); (try clear hcz8_0 hcz8_1 hcz8_2 hcz8_3 hcz8_4 hfz8_0 hfz8_1 hfz8_2 hfz8_3 hfz8_4)
  obtain ⟨kq, x22_1, rfl, HA, HJ1, BK281, HB⟩ := hcut
  cases kq with
  | zero => exact absurd HA.out (by simp [spec_FairOk.j0])
  | succ kj1 =>
   have H := HA.out
   clear HA
   simp only [spec_FairOk.j0] at H
   by_cases c19 : x22_1 = true
   ·subst c19
    have H1 : (some false) = some r := by rw [if_pos rfl] at H; exact H
    clear H
    have H := H1
    clear H1
    obtain rfl := Option.some.inj H
    go_wp2
    go_ret
    exact ⟨by first | rfl | (simp [errW_none, errW_some] <;> rfl) | (simp [*, errW_none, errW_some] <;> rfl), bf_ HB⟩
   ·replace c19 := Bool.eq_false_iff.mpr c19
    subst c19
    have H1 : (spec_FairOk.l0 kj1 0 a0_0 a0_1 a0_2 a0_3 l0_4) = some r := by rw [if_neg (show ¬ (false = true) by decide)] at H; exact H
    clear H
    have H := H1
    clear H1
    have H' := Aside0.mk H
    clear H
    go_wp2
    go_loopg [3] kj1 (fun kq v3 w' => ∃ (x3_2 : Int), v3 = .int .i64 x3_2 ∧ Aside0 (spec_FairOk.l0 kq x3_2 a0_0 a0_1 a0_2 a0_3 l0_4 = some r) ∧ Aside0 (kq ≤ kj1) ∧ Aside0 (w'.heap[gb281]? = some (.cells #[.int .i64 a0_0, .int .i64 a0_1, .int .i64 a0_2, .int .i64 a0_3, (.slice A0_4 l0_4.length c0_4)] 32 (0, 0))) ∧ Aside0 (Below w.heap.size w w'))
    case atStart => exact ⟨(0), (by first | rfl | (simp; done) | (simp [*]; done)), H', ⟨Nat.le_refl _⟩, ⟨bk_ BK281⟩, ⟨bf_ HB⟩⟩
    case round =>
     clear H'
     (try clear c1); (try clear p2 p2); (try clear c4); (try clear c5); (try clear c7); (try clear c7b0); (try clear c16); (try clear c19); (try clear hcz10_0 hcz10_1 hcz10_2 hcz10_3 hcz10_4 hfz10_0 hfz10_1 hfz10_2 hfz10_3 hfz10_4); (try clear hcz12_0 hcz12_1 hcz12_2 hcz12_3 hcz12_4 hfz12_0 hfz12_1 hfz12_2 hfz12_3 hfz12_4); (try clear hcz14_0 hcz14_1 hcz14_2 hcz14_3 hcz14_4 hfz14_0 hfz14_1 hfz14_2 hfz14_3 hfz14_4); (try clear hcz16_0 hcz16_1 hcz16_2 hcz16_3 hcz16_4 hfz16_0 hfz16_1 hfz16_2 hfz16_3 hfz16_4); (try clear hcz17_0 hcz17_1 hcz17_2 hcz17_3 hcz17_4 hfz17_0 hfz17_1 hfz17_2 hfz17_3 hfz17_4); (try clear hcz8_0 hcz8_1 hcz8_2 hcz8_3 hcz8_4 hfz8_0 hfz8_1 hfz8_2 hfz8_3 hfz8_4)
     obtain ⟨x3_2, rfl, HA, HK2, BK281, HB⟩ := hrel
     cases gk with
     | zero => exact absurd HA.out (by simp [spec_FairOk.l0])
     | succ k2 =>
      have H := HA.out
      clear HA
      simp only [spec_FairOk.l0] at H
      by_cases c20 : x3_2 < (l0_4.length : Int)
      ·rw [if_pos c20] at H
       have c20b0 : decide (x3_2 < (l0_4.length : Int)) = true := decide_eq_true c20
       clear c20
       by_cases c21 : 0 ≤ x3_2
       ·rw [if_pos c21] at H
        have c21b0 : decide (0 ≤ x3_2) = true := decide_eq_true c21
        clear c21
        have HC22 := Aside0.mk H
        clear H; obtain ⟨hcz23_0, hcz23_1, hcz23_2, hcz23_3, hcz23_4, hfz23_0, hfz23_1, hfz23_2, hfz23_3, hfz23_4⟩ := bz5_ BK281
        have p284 : 0 ≤ (x3_2 : Int) := od_
        have q284 : x3_2 < (l0_4.length : Int) := od_
        obtain ⟨ad284, e284, hx284_0, hx284_1, hx284_2, hx284_3, hx284_4, hx284_5⟩ := at_T38 HR0_4.out x3_2 p284 q284
        cases e284
        replace hx284_0 := hb_ HB hx284_0
        replace hx284_1 := hb_ HB hx284_1
        replace hx284_2 := hb_ HB hx284_2
        replace hx284_3 := hb_ HB hx284_3
        replace hx284_4 := hb_ HB hx284_4
        replace hx284_5 := hb_ HB hx284_5
        replace p284 := eq_true p284
        replace q284 := eq_true q284
        go_upto_region 7 with (first | ((with_reducible refine gd_ 4 rfl ?_); (try (refine gate_guard (by rfl) ?_; dsimp only)); refine bv_ 4 #[.int .i64 0, .int .i64 0, .bool false, .int .i64 0, .int .i64 0, .int .i64 0] 38 ?_; intro gb285 hg w24 hbox hb; have BK285 := Aside0.mk (hbox); have GW285 := gw_ HB hg; have GE285 := gw_ HB hg; replace HB := Aside0.mk (below_step (bf_ HB) hb); have NB281_285 := nl_ BK281 hg; have NB285_281 := ng_ BK281 hg; replace BK281 := bb_ BK281 hb; clear hb hbox hg; have hnb25 := NB285_281.out; have hnc25 := NB281_285.out; obtain ⟨hcz26_0, hcz26_1, hcz26_2, hcz26_3, hcz26_4, hcz26_5, hfz26_0, hfz26_1, hfz26_2, hfz26_3, hfz26_4, hfz26_5⟩ := bz6_ BK285))
        (try simp only [Act.put, ls0_, ls1_, ls2_])
        go_cut [72] (fun v72 wc => ∃ (kq : Nat) (x72_21 : Bool), v72 = .bool x72_21 ∧ Aside0 (spec_FairOk.j2 kq x3_2 x72_21 a0_0 a0_1 a0_2 a0_3 l0_4 ((rd_T38 l0_4 x3_2).f0) ((rd_T38 l0_4 x3_2).f1) ((rd_T38 l0_4 x3_2).f2) ((rd_T38 l0_4 x3_2).f3.f0) ((rd_T38 l0_4 x3_2).f3.f1) ((rd_T38 l0_4 x3_2).f3.f2) = some r) ∧ Aside0 (kq ≤ k2) ∧ Aside0 (wc.heap[gb281]? = some (.cells #[.int .i64 a0_0, .int .i64 a0_1, .int .i64 a0_2, .int .i64 a0_3, (.slice (some ad284) l0_4.length c0_4)] 32 (0, 0))) ∧ Aside0 (wc.heap[gb285]? = some (.cells #[.int .i64 ((rd_T38 l0_4 x3_2).f0), .int .i64 ((rd_T38 l0_4 x3_2).f1), .bool ((rd_T38 l0_4 x3_2).f2), .int .i64 ((rd_T38 l0_4 x3_2).f3.f0), .int .i64 ((rd_T38 l0_4 x3_2).f3.f1), .int .i64 ((rd_T38 l0_4 x3_2).f3.f2)] 38 (0, 0))) ∧ Aside0 (Below w.heap.size w wc))
        case first =>
         have H := HC22.out
         clear HC22
         by_cases c27 : ((rd_T38 l0_4 x3_2).f0) < 0
         ·rw [if_pos c27] at H
          have c27b0 : decide (((rd_T38 l0_4 x3_2).f0) < 0) = true := decide_eq_true c27
          clear c27
          (first | rw [c27b0] | (simp only [i64_w, i32_w]; rw [c27b0]) | skip)
          have H' := Aside0.mk H
          clear H
          try go_wp2
          generalize hW_ : ((((((w24.setCell ⟨gb285, 0, none⟩ (.int .i64 ((rd_T38 l0_4 x3_2).f0))).setCell ⟨gb285, 1, none⟩ (.int .i64 ((rd_T38 l0_4 x3_2).f1))).setCell ⟨gb285, 2, none⟩ (.bool ((rd_T38 l0_4 x3_2).f2))).setCell ⟨gb285, 3, none⟩ (.int .i64 ((rd_T38 l0_4 x3_2).f3.f0))).setCell ⟨gb285, 4, none⟩ (.int .i64 ((rd_T38 l0_4 x3_2).f3.f1))).setCell ⟨gb285, 5, none⟩ (.int .i64 ((rd_T38 l0_4 x3_2).f3.f2))) = w28
          replace BK281 := fc6_ hW_ BK281 NB281_285
          replace BK285 : Aside0 (w28.heap[gb285]? = some (.cells #[.int .i64 ((rd_T38 l0_4 x3_2).f0), .int .i64 ((rd_T38 l0_4 x3_2).f1), .bool ((rd_T38 l0_4 x3_2).f2), .int .i64 ((rd_T38 l0_4 x3_2).f3.f0), .int .i64 ((rd_T38 l0_4 x3_2).f3.f1), .int .i64 ((rd_T38 l0_4 x3_2).f3.f2)] 38 (0, 0))) := pc6_ hW_ BK285
          replace HB : Aside0 (Below w.heap.size w w28) := ⟨by cases hW_; exact bf_ HB⟩
          clear hW_; replace BK281 := Aside0.mk (blk_drew BK281.out); replace BK285 := Aside0.mk (blk_drew BK285.out); replace HB := Aside0.mk (below_drew1 HB.out)
          refine start_ (n := 38) (S := fun w' => cw_ w' gb285 0 (.int .i64 ((rd_T38 l0_4 x3_2).f0)) ∧ cw_ w' gb285 1 (.int .i64 ((rd_T38 l0_4 x3_2).f1)) ∧ cw_ w' gb285 2 (.bool ((rd_T38 l0_4 x3_2).f2)) ∧ cw_ w' gb285 3 (.int .i64 ((rd_T38 l0_4 x3_2).f3.f0)) ∧ cw_ w' gb285 4 (.int .i64 ((rd_T38 l0_4 x3_2).f3.f1)) ∧ cw_ w' gb285 5 (.int .i64 ((rd_T38 l0_4 x3_2).f3.f2))) (ds := []) (bs 38 0) (by kernel_rfl) rfl rfl ⟨bt_ BK285 0, bt_ BK285 1, bt_ BK285 2, bt_ BK285 3, bt_ BK285 4, bt_ BK285 5⟩ (fun hHeld => ?_); refine with_tabW spec_FairOk.tab7 spec_FairOk.bits7 (fun HT_ HW_ => ?_)
          generalize w28.drew = w29 at BK281 BK285 HB hHeld ⊢
          refine ps_ 0 35 (bs 38 1) HT_ ?_
          refine tk_ 1 36 (bs 38 2) HT_ HW_ hHeld ?_
          refine ps_ 2 37 (bs 38 3) HT_ ?_
          refine ps_ 3 38 (bs 38 4) HT_ ?_
          refine pu_ 4 39 (bs 38 5) HT_ ?_
          refine pu_ 5 40 (bs 38 6) HT_ ?_
          refine pu_ 6 41 (bs 38 7) HT_ ?_
          refine ps_ 7 42 (bs 38 8) HT_ ?_
          refine ps_ 8 43 (bs 38 9) HT_ ?_
          refine pu_ 9 44 (bs 38 10) HT_ ?_
          refine pu_ 10 45 (bs 38 11) HT_ ?_
          refine pu_ 11 46 (bs 38 12) HT_ ?_
          refine pu_ 12 47 (bs 38 13) HT_ ?_
          refine pu_ 13 48 (bs 38 14) HT_ ?_
          refine pu_ 14 49 (bs 38 15) HT_ ?_
          refine pu_ 15 50 (bs 38 16) HT_ ?_
          refine pu_ 16 51 (bs 38 17) HT_ ?_
          refine pu_ 17 52 (bs 38 18) HT_ ?_
          refine pu_ 18 53 (bs 38 19) HT_ ?_
          refine pu_ 19 54 (bs 38 20) HT_ ?_
          refine pu_ 20 55 (bs 38 21) HT_ ?_
          refine pu_ 21 56 (bs 38 22) HT_ ?_
          refine pu_ 22 57 (bs 38 23) HT_ ?_
          refine ps_ 23 58 (bs 38 24) HT_ ?_
          refine ps_ 24 59 (bs 38 25) HT_ ?_
          refine pu_ 25 60 (bs 38 26) HT_ ?_
          refine pu_ 26 61 (bs 38 27) HT_ ?_
          refine pu_ 27 62 (bs 38 28) HT_ ?_
          refine pu_ 28 63 (bs 38 29) HT_ ?_
          refine ps_ 29 64 (bs 38 30) HT_ ?_
          refine ps_ 30 65 (bs 38 31) HT_ ?_
          refine pu_ 31 66 (bs 38 32) HT_ ?_
          refine pu_ 32 67 (bs 38 33) HT_ ?_
          refine pu_ 33 68 (bs 38 34) HT_ ?_
          refine pu_ 34 69 (bs 38 35) HT_ ?_
          refine pu_ 35 70 (bs 38 36) HT_ ?_
          refine pu_ 36 71 (bs 38 37) HT_ ?_
          refine ps_ 37 72 (bs 38 38) HT_ ?_
          refine done_ (done_of HT_.out (by kernel_rfl)) ?_
          try go_wp2
          go_meet
          case rel => exact ⟨_, (true), (by first | rfl | (simp; done) | (simp [*]; done)), H', ⟨by have := HJ1.out; have := HK2.out; first | omega | exact Nat.le_refl _⟩, ⟨bk_ BK281⟩, ⟨bk_ BK285⟩, ⟨bf_ HB⟩⟩
         ·rw [if_neg c27] at H
          have c27b0 : decide (((rd_T38 l0_4 x3_2).f0) < 0) = false := decide_eq_false c27
          clear c27
          (first | rw [c27b0] | (simp only [i64_w, i32_w]; rw [c27b0]) | skip)
          by_cases c30 : ((rd_T38 l0_4 x3_2).f0) > 9999
          ·rw [if_pos c30] at H
           have c30b0 : decide (9999 < ((rd_T38 l0_4 x3_2).f0)) = true := decide_eq_true c30
           clear c30
           have H' := Aside0.mk H
           clear H
           try go_wp2
           generalize hW_ : ((((((w24.setCell ⟨gb285, 0, none⟩ (.int .i64 ((rd_T38 l0_4 x3_2).f0))).setCell ⟨gb285, 1, none⟩ (.int .i64 ((rd_T38 l0_4 x3_2).f1))).setCell ⟨gb285, 2, none⟩ (.bool ((rd_T38 l0_4 x3_2).f2))).setCell ⟨gb285, 3, none⟩ (.int .i64 ((rd_T38 l0_4 x3_2).f3.f0))).setCell ⟨gb285, 4, none⟩ (.int .i64 ((rd_T38 l0_4 x3_2).f3.f1))).setCell ⟨gb285, 5, none⟩ (.int .i64 ((rd_T38 l0_4 x3_2).f3.f2))) = w31
           replace BK281 := fc6_ hW_ BK281 NB281_285
           replace BK285 : Aside0 (w31.heap[gb285]? = some (.cells #[.int .i64 ((rd_T38 l0_4 x3_2).f0), .int .i64 ((rd_T38 l0_4 x3_2).f1), .bool ((rd_T38 l0_4 x3_2).f2), .int .i64 ((rd_T38 l0_4 x3_2).f3.f0), .int .i64 ((rd_T38 l0_4 x3_2).f3.f1), .int .i64 ((rd_T38 l0_4 x3_2).f3.f2)] 38 (0, 0))) := pc6_ hW_ BK285
           replace HB : Aside0 (Below w.heap.size w w31) := ⟨by cases hW_; exact bf_ HB⟩
           clear hW_; replace BK281 := Aside0.mk (blk_drew BK281.out); replace BK285 := Aside0.mk (blk_drew BK285.out); replace HB := Aside0.mk (below_drew1 HB.out)
           refine start_ (n := 38) (S := fun w' => cw_ w' gb285 0 (.int .i64 ((rd_T38 l0_4 x3_2).f0)) ∧ cw_ w' gb285 1 (.int .i64 ((rd_T38 l0_4 x3_2).f1)) ∧ cw_ w' gb285 2 (.bool ((rd_T38 l0_4 x3_2).f2)) ∧ cw_ w' gb285 3 (.int .i64 ((rd_T38 l0_4 x3_2).f3.f0)) ∧ cw_ w' gb285 4 (.int .i64 ((rd_T38 l0_4 x3_2).f3.f1)) ∧ cw_ w' gb285 5 (.int .i64 ((rd_T38 l0_4 x3_2).f3.f2))) (ds := []) (bs 38 0) (by kernel_rfl) rfl rfl ⟨bt_ BK285 0, bt_ BK285 1, bt_ BK285 2, bt_ BK285 3, bt_ BK285 4, bt_ BK285 5⟩ (fun hHeld => ?_); refine with_tabW spec_FairOk.tab7 spec_FairOk.bits7 (fun HT_ HW_ => ?_)
           generalize w31.drew = w32 at BK281 BK285 HB hHeld ⊢
           refine ps_ 0 35 (bs 38 1) HT_ ?_
           refine tk_ 1 36 (bs 38 2) HT_ HW_ hHeld ?_
           refine ps_ 2 37 (bs 38 3) HT_ ?_
           refine ps_ 3 38 (bs 38 4) HT_ ?_
           refine ps_ 4 39 (bs 38 5) HT_ ?_
           refine tk_ 5 40 (bs 38 6) HT_ HW_ hHeld ?_
           refine ps_ 6 41 (bs 38 7) HT_ ?_
           refine ps_ 7 42 (bs 38 8) HT_ ?_
           refine ps_ 8 43 (bs 38 9) HT_ ?_
           refine pu_ 9 44 (bs 38 10) HT_ ?_
           refine pu_ 10 45 (bs 38 11) HT_ ?_
           refine pu_ 11 46 (bs 38 12) HT_ ?_
           refine pu_ 12 47 (bs 38 13) HT_ ?_
           refine pu_ 13 48 (bs 38 14) HT_ ?_
           refine pu_ 14 49 (bs 38 15) HT_ ?_
           refine pu_ 15 50 (bs 38 16) HT_ ?_
           refine pu_ 16 51 (bs 38 17) HT_ ?_
           refine pu_ 17 52 (bs 38 18) HT_ ?_
           refine pu_ 18 53 (bs 38 19) HT_ ?_
           refine pu_ 19 54 (bs 38 20) HT_ ?_
           refine pu_ 20 55 (bs 38 21) HT_ ?_
           refine pu_ 21 56 (bs 38 22) HT_ ?_
           refine pu_ 22 57 (bs 38 23) HT_ ?_
           refine ps_ 23 58 (bs 38 24) HT_ ?_
           refine ps_ 24 59 (bs 38 25) HT_ ?_
           refine pu_ 25 60 (bs 38 26) HT_ ?_
           refine pu_ 26 61 (bs 38 27) HT_ ?_
           refine pu_ 27 62 (bs 38 28) HT_ ?_
           refine pu_ 28 63 (bs 38 29) HT_ ?_
           refine ps_ 29 64 (bs 38 30) HT_ ?_
           refine ps_ 30 65 (bs 38 31) HT_ ?_
           refine pu_ 31 66 (bs 38 32) HT_ ?_
           refine pu_ 32 67 (bs 38 33) HT_ ?_
           refine pu_ 33 68 (bs 38 34) HT_ ?_
           refine pu_ 34 69 (bs 38 35) HT_ ?_
           refine pu_ 35 70 (bs 38 36) HT_ ?_
           refine pu_ 36 71 (bs 38 37) HT_ ?_
           refine ps_ 37 72 (bs 38 38) HT_ ?_
           refine done_ (done_of HT_.out (by kernel_rfl)) ?_
           try go_wp2
           go_meet
           case rel => exact ⟨_, (true), (by first | rfl | (simp; done) | (simp [*]; done)), H', ⟨by have := HJ1.out; have := HK2.out; first | omega | exact Nat.le_refl _⟩, ⟨bk_ BK281⟩, ⟨bk_ BK285⟩, ⟨bf_ HB⟩⟩
          ·rw [if_neg c30] at H
           have c30b0 : decide (9999 < ((rd_T38 l0_4 x3_2).f0)) = false := decide_eq_false c30
           clear c30
           by_cases c33 : x3_2 > 0
           ·rw [if_pos c33] at H
            have c33b0 : decide (0 < x3_2) = true := decide_eq_true c33
            clear c33
            obtain ⟨ji34, hji34⟩ : ∃ j_ : Int, (wrap64 (x3_2 - 1)) = j_ := ⟨_, rfl⟩
            replace H : (if 0 ≤ (ji34) then (if (ji34) < (l0_4.length : Int) then (if ((rd_T38 l0_4 (ji34)).f0) ≥ ((rd_T38 l0_4 x3_2).f0) then (spec_FairOk.j2 k2 x3_2 true a0_0 a0_1 a0_2 a0_3 l0_4 ((rd_T38 l0_4 x3_2).f0) ((rd_T38 l0_4 x3_2).f1) ((rd_T38 l0_4 x3_2).f2) ((rd_T38 l0_4 x3_2).f3.f0) ((rd_T38 l0_4 x3_2).f3.f1) ((rd_T38 l0_4 x3_2).f3.f2)) else ((spec_Stride.f ((rd_T38 l0_4 x3_2).f1)).bind fun t287 => (if t287 = 0 then (spec_FairOk.j2 k2 x3_2 true a0_0 a0_1 a0_2 a0_3 l0_4 ((rd_T38 l0_4 x3_2).f0) ((rd_T38 l0_4 x3_2).f1) ((rd_T38 l0_4 x3_2).f2) ((rd_T38 l0_4 x3_2).f3.f0) ((rd_T38 l0_4 x3_2).f3.f1) ((rd_T38 l0_4 x3_2).f3.f2)) else ((spec_Narrow.f ((rd_T38 l0_4 x3_2).f3.f0) ((rd_T38 l0_4 x3_2).f3.f1) ((rd_T38 l0_4 x3_2).f3.f2) a0_0).bind fun t288 => (spec_FairOk.j2 k2 x3_2 (!t288) a0_0 a0_1 a0_2 a0_3 l0_4 ((rd_T38 l0_4 x3_2).f0) ((rd_T38 l0_4 x3_2).f1) ((rd_T38 l0_4 x3_2).f2) ((rd_T38 l0_4 x3_2).f3.f0) ((rd_T38 l0_4 x3_2).f3.f1) ((rd_T38 l0_4 x3_2).f3.f2)))))) else (none)) else (none)) = some r := by first | (rw [hji34] at H; exact H) | (simp only [hji34] at H ⊢; exact H)
            have hji34w : (IntKind.i64.wrap (x3_2 - 1)) = ji34 := (i64_w _).trans hji34
            by_cases c35 : 0 ≤ (ji34)
            ·rw [if_pos c35] at H
             have c35b0 : decide (0 ≤ (ji34)) = true := decide_eq_true c35
             clear c35
             by_cases c36 : (ji34) < (l0_4.length : Int)
             ·rw [if_pos c36] at H
              have c36b0 : decide ((ji34) < (l0_4.length : Int)) = true := decide_eq_true c36
              clear c36
              by_cases c37 : ((rd_T38 l0_4 (ji34)).f0) ≥ ((rd_T38 l0_4 x3_2).f0)
              ·rw [if_pos c37] at H
               have c37b0 : decide (((rd_T38 l0_4 x3_2).f0) ≤ ((rd_T38 l0_4 (ji34)).f0)) = true := decide_eq_true c37
               clear c37
               have H' := Aside0.mk H
               clear H
               try go_wp2
               generalize hW_ : ((((((w24.setCell ⟨gb285, 0, none⟩ (.int .i64 ((rd_T38 l0_4 x3_2).f0))).setCell ⟨gb285, 1, none⟩ (.int .i64 ((rd_T38 l0_4 x3_2).f1))).setCell ⟨gb285, 2, none⟩ (.bool ((rd_T38 l0_4 x3_2).f2))).setCell ⟨gb285, 3, none⟩ (.int .i64 ((rd_T38 l0_4 x3_2).f3.f0))).setCell ⟨gb285, 4, none⟩ (.int .i64 ((rd_T38 l0_4 x3_2).f3.f1))).setCell ⟨gb285, 5, none⟩ (.int .i64 ((rd_T38 l0_4 x3_2).f3.f2))) = w38
               replace BK281 := fc6_ hW_ BK281 NB281_285
               replace BK285 : Aside0 (w38.heap[gb285]? = some (.cells #[.int .i64 ((rd_T38 l0_4 x3_2).f0), .int .i64 ((rd_T38 l0_4 x3_2).f1), .bool ((rd_T38 l0_4 x3_2).f2), .int .i64 ((rd_T38 l0_4 x3_2).f3.f0), .int .i64 ((rd_T38 l0_4 x3_2).f3.f1), .int .i64 ((rd_T38 l0_4 x3_2).f3.f2)] 38 (0, 0))) := pc6_ hW_ BK285
               replace HB : Aside0 (Below w.heap.size w w38) := ⟨by cases hW_; exact bf_ HB⟩
               clear hW_; replace BK281 := Aside0.mk (blk_drew BK281.out); replace BK285 := Aside0.mk (blk_drew BK285.out); replace HB := Aside0.mk (below_drew1 HB.out)
               have p286 : 0 ≤ ((ji34) : Int) := od_
               have q286 : (ji34) < (l0_4.length : Int) := od_
               obtain ⟨ad286, e286, hx286_0, hx286_1, hx286_2, hx286_3, hx286_4, hx286_5⟩ := at_T38 HR0_4.out (ji34) p286 q286
               have hw286_5 := hx286_5; have hw286_4 := hx286_4; have hw286_3 := hx286_3; have hw286_2 := hx286_2; have hw286_1 := hx286_1; have hw286_0 := hx286_0
               obtain rfl : ad284 = ad286 := (by injection e286)
               replace hx286_0 := hb_ HB hx286_0
               replace hx286_1 := hb_ HB hx286_1
               replace hx286_2 := hb_ HB hx286_2
               replace hx286_3 := hb_ HB hx286_3
               replace hx286_4 := hb_ HB hx286_4
               replace hx286_5 := hb_ HB hx286_5
               replace p286 := eq_true p286
               replace q286 := eq_true q286
               refine start_ (n := 38) (S := fun w' => cw_ w' gb285 0 (.int .i64 ((rd_T38 l0_4 x3_2).f0)) ∧ cw_ w' gb285 1 (.int .i64 ((rd_T38 l0_4 x3_2).f1)) ∧ cw_ w' gb285 2 (.bool ((rd_T38 l0_4 x3_2).f2)) ∧ cw_ w' gb285 3 (.int .i64 ((rd_T38 l0_4 x3_2).f3.f0)) ∧ cw_ w' gb285 4 (.int .i64 ((rd_T38 l0_4 x3_2).f3.f1)) ∧ cw_ w' gb285 5 (.int .i64 ((rd_T38 l0_4 x3_2).f3.f2)) ∧ cw_ w' gb281 0 (.int .i64 a0_0) ∧ cw_ w' gb281 1 (.int .i64 a0_1) ∧ cw_ w' gb281 2 (.int .i64 a0_2) ∧ cw_ w' gb281 3 (.int .i64 a0_3) ∧ cw_ w' gb281 4 (.slice (some ad284) l0_4.length c0_4) ∧ w'.cell? (ad284.add (((ji34)).toNat * 6)) = some (.int .i64 ((rd_T38 l0_4 (ji34)).f0)) ∧ w'.cell? ⟨(ad284.add (((ji34)).toNat * 6)).block, (ad284.add (((ji34)).toNat * 6)).off + 1, none⟩ = some (.int .i64 ((rd_T38 l0_4 (ji34)).f1)) ∧ w'.cell? ⟨(ad284.add (((ji34)).toNat * 6)).block, (ad284.add (((ji34)).toNat * 6)).off + 2, none⟩ = some (.bool ((rd_T38 l0_4 (ji34)).f2)) ∧ w'.cell? ⟨(ad284.add (((ji34)).toNat * 6)).block, (ad284.add (((ji34)).toNat * 6)).off + 3, none⟩ = some (.int .i64 ((rd_T38 l0_4 (ji34)).f3.f0)) ∧ w'.cell? ⟨(ad284.add (((ji34)).toNat * 6)).block, (ad284.add (((ji34)).toNat * 6)).off + 4, none⟩ = some (.int .i64 ((rd_T38 l0_4 (ji34)).f3.f1)) ∧ w'.cell? ⟨(ad284.add (((ji34)).toNat * 6)).block, (ad284.add (((ji34)).toNat * 6)).off + 5, none⟩ = some (.int .i64 ((rd_T38 l0_4 (ji34)).f3.f2))) (ds := []) (bs 38 0) (by kernel_rfl) rfl rfl ⟨bt_ BK285 0, bt_ BK285 1, bt_ BK285 2, bt_ BK285 3, bt_ BK285 4, bt_ BK285 5, bt_ BK281 0, bt_ BK281 1, bt_ BK281 2, bt_ BK281 3, bt_ BK281 4, (hd_ HB hw286_0), (hd_ HB hw286_1), (hd_ HB hw286_2), (hd_ HB hw286_3), (hd_ HB hw286_4), (hd_ HB hw286_5)⟩ (fun hHeld => ?_); refine with_tabW spec_FairOk.tab7 spec_FairOk.bits7 (fun HT_ HW_ => ?_)
               generalize w38.drew = w39 at BK281 BK285 HB hx286_0 hx286_1 hx286_2 hx286_3 hx286_4 hx286_5 hHeld ⊢
               refine ps_ 0 35 (bs 38 1) HT_ ?_
               refine tk_ 1 36 (bs 38 2) HT_ HW_ hHeld ?_
               refine ps_ 2 37 (bs 38 3) HT_ ?_
               refine ps_ 3 38 (bs 38 4) HT_ ?_
               refine ps_ 4 39 (bs 38 5) HT_ ?_
               refine tk_ 5 40 (bs 38 6) HT_ HW_ hHeld ?_
               refine ps_ 6 41 (bs 38 7) HT_ ?_
               refine ps_ 7 42 (bs 38 8) HT_ ?_
               refine ps_ 8 43 (bs 38 9) HT_ ?_
               refine ps_ 9 44 (bs 38 10) HT_ ?_
               refine ps_ 10 45 (bs 38 11) HT_ ?_
               refine ps_ 11 46 (bs 38 12) HT_ ?_
               refine ps_ 12 47 (bs 38 13) HT_ ?_
               refine ps_ 14 49 (bm 38 24575) HT_ ?_
               refine ps_ 15 50 (bm 38 57343) HT_ ?_
               refine ps_ 19 54 (bm 38 581631) HT_ ?_
               refine tk_ 13 48 (bm 38 589823) HT_ HW_ hHeld ?_
               refine ps_ 16 51 (bm 38 655359) HT_ ?_
               refine ps_ 17 52 (bm 38 786431) HT_ ?_
               refine tk_ 18 53 (bs 38 20) HT_ HW_ hHeld ?_
               refine tk_ 20 55 (bs 38 21) HT_ HW_ hHeld ?_
               refine ps_ 21 56 (bs 38 22) HT_ ?_
               refine ps_ 22 57 (bs 38 23) HT_ ?_
               refine ps_ 23 58 (bs 38 24) HT_ ?_
               refine ps_ 24 59 (bs 38 25) HT_ ?_
               refine pu_ 25 60 (bs 38 26) HT_ ?_
               refine pu_ 26 61 (bs 38 27) HT_ ?_
               refine pu_ 27 62 (bs 38 28) HT_ ?_
               refine pu_ 28 63 (bs 38 29) HT_ ?_
               refine ps_ 29 64 (bs 38 30) HT_ ?_
               refine ps_ 30 65 (bs 38 31) HT_ ?_
               refine pu_ 31 66 (bs 38 32) HT_ ?_
               refine pu_ 32 67 (bs 38 33) HT_ ?_
               refine pu_ 33 68 (bs 38 34) HT_ ?_
               refine pu_ 34 69 (bs 38 35) HT_ ?_
               refine pu_ 35 70 (bs 38 36) HT_ ?_
               refine pu_ 36 71 (bs 38 37) HT_ ?_
               refine ps_ 37 72 (bs 38 38) HT_ ?_
               refine done_ (done_of HT_.out (by kernel_rfl)) ?_
               try go_wp2
               go_meet
               case rel => exact ⟨_, (true), (by first | rfl | (simp; done) | (simp [*]; done)), H', ⟨by have := HJ1.out; have := HK2.out; first | omega | exact Nat.le_refl _⟩, ⟨bk_ BK281⟩, ⟨bk_ BK285⟩, ⟨bf_ HB⟩⟩
              ·rw [if_neg c37] at H
               have c37b0 : decide (((rd_T38 l0_4 x3_2).f0) ≤ ((rd_T38 l0_4 (ji34)).f0)) = false := decide_eq_false c37
               clear c37
               replace H := Option.bind_eq_some_iff.mp H
               obtain ⟨t287, A400, H⟩ := H
               replace H : (if t287 = 0 then (spec_FairOk.j2 k2 x3_2 true a0_0 a0_1 a0_2 a0_3 l0_4 ((rd_T38 l0_4 x3_2).f0) ((rd_T38 l0_4 x3_2).f1) ((rd_T38 l0_4 x3_2).f2) ((rd_T38 l0_4 x3_2).f3.f0) ((rd_T38 l0_4 x3_2).f3.f1) ((rd_T38 l0_4 x3_2).f3.f2)) else ((spec_Narrow.f ((rd_T38 l0_4 x3_2).f3.f0) ((rd_T38 l0_4 x3_2).f3.f1) ((rd_T38 l0_4 x3_2).f3.f2) a0_0).bind fun t288 => (spec_FairOk.j2 k2 x3_2 (!t288) a0_0 a0_1 a0_2 a0_3 l0_4 ((rd_T38 l0_4 x3_2).f0) ((rd_T38 l0_4 x3_2).f1) ((rd_T38 l0_4 x3_2).f2) ((rd_T38 l0_4 x3_2).f3.f0) ((rd_T38 l0_4 x3_2).f3.f1) ((rd_T38 l0_4 x3_2).f3.f2)))) = some r := H
               have A40 := Aside0.mk A400
               clear A400
               by_cases c41 : t287 = 0
               ·rw [if_pos c41] at H
                have c41b0 : (t287 == 0) = true := beq_iff_eq.mpr c41
                have c41b1 : (t287 != 0) = false := bne_eq_false_iff_eq.mpr c41
                clear c41
                have H' := Aside0.mk H
                clear H
                try go_wp2
                generalize hW_ : ((((((w24.setCell ⟨gb285, 0, none⟩ (.int .i64 ((rd_T38 l0_4 x3_2).f0))).setCell ⟨gb285, 1, none⟩ (.int .i64 ((rd_T38 l0_4 x3_2).f1))).setCell ⟨gb285, 2, none⟩ (.bool ((rd_T38 l0_4 x3_2).f2))).setCell ⟨gb285, 3, none⟩ (.int .i64 ((rd_T38 l0_4 x3_2).f3.f0))).setCell ⟨gb285, 4, none⟩ (.int .i64 ((rd_T38 l0_4 x3_2).f3.f1))).setCell ⟨gb285, 5, none⟩ (.int .i64 ((rd_T38 l0_4 x3_2).f3.f2))) = w42
                replace BK281 := fc6_ hW_ BK281 NB281_285
                replace BK285 : Aside0 (w42.heap[gb285]? = some (.cells #[.int .i64 ((rd_T38 l0_4 x3_2).f0), .int .i64 ((rd_T38 l0_4 x3_2).f1), .bool ((rd_T38 l0_4 x3_2).f2), .int .i64 ((rd_T38 l0_4 x3_2).f3.f0), .int .i64 ((rd_T38 l0_4 x3_2).f3.f1), .int .i64 ((rd_T38 l0_4 x3_2).f3.f2)] 38 (0, 0))) := pc6_ hW_ BK285
                replace HB : Aside0 (Below w.heap.size w w42) := ⟨by cases hW_; exact bf_ HB⟩
                clear hW_; replace BK281 := Aside0.mk (blk_drew BK281.out); replace BK285 := Aside0.mk (blk_drew BK285.out); replace HB := Aside0.mk (below_drew1 HB.out)
                have p286 : 0 ≤ ((ji34) : Int) := od_
                have q286 : (ji34) < (l0_4.length : Int) := od_
                obtain ⟨ad286, e286, hx286_0, hx286_1, hx286_2, hx286_3, hx286_4, hx286_5⟩ := at_T38 HR0_4.out (ji34) p286 q286
                have hw286_5 := hx286_5; have hw286_4 := hx286_4; have hw286_3 := hx286_3; have hw286_2 := hx286_2; have hw286_1 := hx286_1; have hw286_0 := hx286_0
                obtain rfl : ad284 = ad286 := (by injection e286)
                replace hx286_0 := hb_ HB hx286_0
                replace hx286_1 := hb_ HB hx286_1
                replace hx286_2 := hb_ HB hx286_2
                replace hx286_3 := hb_ HB hx286_3
                replace hx286_4 := hb_ HB hx286_4
                replace hx286_5 := hb_ HB hx286_5
                replace p286 := eq_true p286
                replace q286 := eq_true q286
                refine start_ (n := 38) (S := fun w' => cw_ w' gb285 0 (.int .i64 ((rd_T38 l0_4 x3_2).f0)) ∧ cw_ w' gb285 1 (.int .i64 ((rd_T38 l0_4 x3_2).f1)) ∧ cw_ w' gb285 2 (.bool ((rd_T38 l0_4 x3_2).f2)) ∧ cw_ w' gb285 3 (.int .i64 ((rd_T38 l0_4 x3_2).f3.f0)) ∧ cw_ w' gb285 4 (.int .i64 ((rd_T38 l0_4 x3_2).f3.f1)) ∧ cw_ w' gb285 5 (.int .i64 ((rd_T38 l0_4 x3_2).f3.f2)) ∧ cw_ w' gb281 0 (.int .i64 a0_0) ∧ cw_ w' gb281 1 (.int .i64 a0_1) ∧ cw_ w' gb281 2 (.int .i64 a0_2) ∧ cw_ w' gb281 3 (.int .i64 a0_3) ∧ cw_ w' gb281 4 (.slice (some ad284) l0_4.length c0_4) ∧ w'.cell? (ad284.add (((ji34)).toNat * 6)) = some (.int .i64 ((rd_T38 l0_4 (ji34)).f0)) ∧ w'.cell? ⟨(ad284.add (((ji34)).toNat * 6)).block, (ad284.add (((ji34)).toNat * 6)).off + 1, none⟩ = some (.int .i64 ((rd_T38 l0_4 (ji34)).f1)) ∧ w'.cell? ⟨(ad284.add (((ji34)).toNat * 6)).block, (ad284.add (((ji34)).toNat * 6)).off + 2, none⟩ = some (.bool ((rd_T38 l0_4 (ji34)).f2)) ∧ w'.cell? ⟨(ad284.add (((ji34)).toNat * 6)).block, (ad284.add (((ji34)).toNat * 6)).off + 3, none⟩ = some (.int .i64 ((rd_T38 l0_4 (ji34)).f3.f0)) ∧ w'.cell? ⟨(ad284.add (((ji34)).toNat * 6)).block, (ad284.add (((ji34)).toNat * 6)).off + 4, none⟩ = some (.int .i64 ((rd_T38 l0_4 (ji34)).f3.f1)) ∧ w'.cell? ⟨(ad284.add (((ji34)).toNat * 6)).block, (ad284.add (((ji34)).toNat * 6)).off + 5, none⟩ = some (.int .i64 ((rd_T38 l0_4 (ji34)).f3.f2))) (ds := []) (bs 38 0) (by kernel_rfl) rfl rfl ⟨bt_ BK285 0, bt_ BK285 1, bt_ BK285 2, bt_ BK285 3, bt_ BK285 4, bt_ BK285 5, bt_ BK281 0, bt_ BK281 1, bt_ BK281 2, bt_ BK281 3, bt_ BK281 4, (hd_ HB hw286_0), (hd_ HB hw286_1), (hd_ HB hw286_2), (hd_ HB hw286_3), (hd_ HB hw286_4), (hd_ HB hw286_5)⟩ (fun hHeld => ?_); refine with_tabW spec_FairOk.tab7 spec_FairOk.bits7 (fun HT_ HW_ => ?_)
                generalize w42.drew = w43 at BK281 BK285 HB hx286_0 hx286_1 hx286_2 hx286_3 hx286_4 hx286_5 hHeld ⊢
                refine ps_ 0 35 (bs 38 1) HT_ ?_
                refine tk_ 1 36 (bs 38 2) HT_ HW_ hHeld ?_
                refine ps_ 2 37 (bs 38 3) HT_ ?_
                refine ps_ 3 38 (bs 38 4) HT_ ?_
                refine ps_ 4 39 (bs 38 5) HT_ ?_
                refine tk_ 5 40 (bs 38 6) HT_ HW_ hHeld ?_
                refine ps_ 6 41 (bs 38 7) HT_ ?_
                refine ps_ 7 42 (bs 38 8) HT_ ?_
                refine ps_ 8 43 (bs 38 9) HT_ ?_
                refine ps_ 9 44 (bs 38 10) HT_ ?_
                refine ps_ 10 45 (bs 38 11) HT_ ?_
                refine ps_ 11 46 (bs 38 12) HT_ ?_
                refine ps_ 12 47 (bs 38 13) HT_ ?_
                refine ps_ 14 49 (bm 38 24575) HT_ ?_
                refine ps_ 15 50 (bm 38 57343) HT_ ?_
                refine ps_ 19 54 (bm 38 581631) HT_ ?_
                refine tk_ 13 48 (bm 38 589823) HT_ HW_ hHeld ?_
                refine ps_ 16 51 (bm 38 655359) HT_ ?_
                refine ps_ 17 52 (bm 38 786431) HT_ ?_
                refine tk_ 18 53 (bs 38 20) HT_ HW_ hHeld ?_
                refine tk_ 20 55 (bs 38 21) HT_ HW_ hHeld ?_
                refine ps_ 21 56 (bs 38 22) HT_ ?_
                refine ps_ 22 57 (bs 38 23) HT_ ?_
                refine ps_ 23 58 (bs 38 24) HT_ ?_
                refine ps_ 24 59 (bs 38 25) HT_ ?_
                refine ps_ 25 60 (bs 38 26) HT_ ?_
                refine tk_ 26 61 (bs 38 27) HT_ HW_ hHeld ?_
                refine on_ 27 (some 62) (bs 38 28) HT_ (fun K hK => ?_)
                refine gs_ Try.func41 #[.int .i64 ((rd_T38 l0_4 x3_2).f1)] ?_
                with_reducible refine (spec_Stride.calls ((rd_T38 l0_4 x3_2).f1) t287 _ A40.out).mono ?_
                rintro e w' ⟨rfl, ⟨nd, rfl⟩⟩
                refine ⟨_, rfl, ?_⟩
                refine hK.out _ _ ⟨bt_ BK285 0, bt_ BK285 1, bt_ BK285 2, bt_ BK285 3, bt_ BK285 4, bt_ BK285 5, bt_ BK281 0, bt_ BK281 1, bt_ BK281 2, bt_ BK281 3, bt_ BK281 4, (hd_ HB hw286_0), (hd_ HB hw286_1), (hd_ HB hw286_2), (hd_ HB hw286_3), (hd_ HB hw286_4), (hd_ HB hw286_5)⟩ (fun hHeld => ?_)
                clear hK K
                refine norm_ (a' := ?_) ?_ ?_
                rotate_left
                ·show Act.put _ (some 62) _ = _
                 simp only [Act.put, ls0_, ls1_, ls2_, i64_w, i32_w]
                 rfl
                refine ps_ 28 63 (bs 38 29) HT_ ?_
                refine ps_ 29 64 (bs 38 30) HT_ ?_
                refine ps_ 30 65 (bs 38 31) HT_ ?_
                refine pu_ 31 66 (bs 38 32) HT_ ?_
                refine pu_ 32 67 (bs 38 33) HT_ ?_
                refine pu_ 33 68 (bs 38 34) HT_ ?_
                refine pu_ 34 69 (bs 38 35) HT_ ?_
                refine pu_ 35 70 (bs 38 36) HT_ ?_
                refine pu_ 36 71 (bs 38 37) HT_ ?_
                refine ps_ 37 72 (bs 38 38) HT_ ?_
                refine done_ (done_of HT_.out (by kernel_rfl)) ?_
                try go_wp2
                go_meet
                case rel => exact ⟨_, (true), (by first | rfl | (simp; done) | (simp [*]; done)), H', ⟨by have := HJ1.out; have := HK2.out; first | omega | exact Nat.le_refl _⟩, ⟨bk_ BK281⟩, ⟨bk_ BK285⟩, ⟨bf_ HB⟩⟩
               ·rw [if_neg c41] at H
                have c41b0 : (t287 == 0) = false := beq_eq_false_iff_ne.mpr c41
                have c41b1 : (t287 != 0) = true := bne_iff_ne.mpr c41
                replace H := Option.bind_eq_some_iff.mp H
                obtain ⟨t288, A440, H⟩ := H
                replace H : (spec_FairOk.j2 k2 x3_2 (!t288) a0_0 a0_1 a0_2 a0_3 l0_4 ((rd_T38 l0_4 x3_2).f0) ((rd_T38 l0_4 x3_2).f1) ((rd_T38 l0_4 x3_2).f2) ((rd_T38 l0_4 x3_2).f3.f0) ((rd_T38 l0_4 x3_2).f3.f1) ((rd_T38 l0_4 x3_2).f3.f2)) = some r := H
                have A44 := Aside0.mk A440
                clear A440
                have H' := Aside0.mk H
                clear H
                try go_wp2
                generalize hW_ : ((((((w24.setCell ⟨gb285, 0, none⟩ (.int .i64 ((rd_T38 l0_4 x3_2).f0))).setCell ⟨gb285, 1, none⟩ (.int .i64 ((rd_T38 l0_4 x3_2).f1))).setCell ⟨gb285, 2, none⟩ (.bool ((rd_T38 l0_4 x3_2).f2))).setCell ⟨gb285, 3, none⟩ (.int .i64 ((rd_T38 l0_4 x3_2).f3.f0))).setCell ⟨gb285, 4, none⟩ (.int .i64 ((rd_T38 l0_4 x3_2).f3.f1))).setCell ⟨gb285, 5, none⟩ (.int .i64 ((rd_T38 l0_4 x3_2).f3.f2))) = w45
                replace BK281 := fc6_ hW_ BK281 NB281_285
                replace BK285 : Aside0 (w45.heap[gb285]? = some (.cells #[.int .i64 ((rd_T38 l0_4 x3_2).f0), .int .i64 ((rd_T38 l0_4 x3_2).f1), .bool ((rd_T38 l0_4 x3_2).f2), .int .i64 ((rd_T38 l0_4 x3_2).f3.f0), .int .i64 ((rd_T38 l0_4 x3_2).f3.f1), .int .i64 ((rd_T38 l0_4 x3_2).f3.f2)] 38 (0, 0))) := pc6_ hW_ BK285
                replace HB : Aside0 (Below w.heap.size w w45) := ⟨by cases hW_; exact bf_ HB⟩
                clear hW_; replace BK281 := Aside0.mk (blk_drew BK281.out); replace BK285 := Aside0.mk (blk_drew BK285.out); replace HB := Aside0.mk (below_drew1 HB.out)
                have p286 : 0 ≤ ((ji34) : Int) := od_
                have q286 : (ji34) < (l0_4.length : Int) := od_
                obtain ⟨ad286, e286, hx286_0, hx286_1, hx286_2, hx286_3, hx286_4, hx286_5⟩ := at_T38 HR0_4.out (ji34) p286 q286
                have hw286_5 := hx286_5; have hw286_4 := hx286_4; have hw286_3 := hx286_3; have hw286_2 := hx286_2; have hw286_1 := hx286_1; have hw286_0 := hx286_0
                obtain rfl : ad284 = ad286 := (by injection e286)
                replace hx286_0 := hb_ HB hx286_0
                replace hx286_1 := hb_ HB hx286_1
                replace hx286_2 := hb_ HB hx286_2
                replace hx286_3 := hb_ HB hx286_3
                replace hx286_4 := hb_ HB hx286_4
                replace hx286_5 := hb_ HB hx286_5
                replace p286 := eq_true p286
                replace q286 := eq_true q286
                refine start_ (n := 38) (S := fun w' => cw_ w' gb285 0 (.int .i64 ((rd_T38 l0_4 x3_2).f0)) ∧ cw_ w' gb285 1 (.int .i64 ((rd_T38 l0_4 x3_2).f1)) ∧ cw_ w' gb285 2 (.bool ((rd_T38 l0_4 x3_2).f2)) ∧ cw_ w' gb285 3 (.int .i64 ((rd_T38 l0_4 x3_2).f3.f0)) ∧ cw_ w' gb285 4 (.int .i64 ((rd_T38 l0_4 x3_2).f3.f1)) ∧ cw_ w' gb285 5 (.int .i64 ((rd_T38 l0_4 x3_2).f3.f2)) ∧ cw_ w' gb281 0 (.int .i64 a0_0) ∧ cw_ w' gb281 1 (.int .i64 a0_1) ∧ cw_ w' gb281 2 (.int .i64 a0_2) ∧ cw_ w' gb281 3 (.int .i64 a0_3) ∧ cw_ w' gb281 4 (.slice (some ad284) l0_4.length c0_4) ∧ w'.cell? (ad284.add (((ji34)).toNat * 6)) = some (.int .i64 ((rd_T38 l0_4 (ji34)).f0)) ∧ w'.cell? ⟨(ad284.add (((ji34)).toNat * 6)).block, (ad284.add (((ji34)).toNat * 6)).off + 1, none⟩ = some (.int .i64 ((rd_T38 l0_4 (ji34)).f1)) ∧ w'.cell? ⟨(ad284.add (((ji34)).toNat * 6)).block, (ad284.add (((ji34)).toNat * 6)).off + 2, none⟩ = some (.bool ((rd_T38 l0_4 (ji34)).f2)) ∧ w'.cell? ⟨(ad284.add (((ji34)).toNat * 6)).block, (ad284.add (((ji34)).toNat * 6)).off + 3, none⟩ = some (.int .i64 ((rd_T38 l0_4 (ji34)).f3.f0)) ∧ w'.cell? ⟨(ad284.add (((ji34)).toNat * 6)).block, (ad284.add (((ji34)).toNat * 6)).off + 4, none⟩ = some (.int .i64 ((rd_T38 l0_4 (ji34)).f3.f1)) ∧ w'.cell? ⟨(ad284.add (((ji34)).toNat * 6)).block, (ad284.add (((ji34)).toNat * 6)).off + 5, none⟩ = some (.int .i64 ((rd_T38 l0_4 (ji34)).f3.f2))) (ds := []) (bs 38 0) (by kernel_rfl) rfl rfl ⟨bt_ BK285 0, bt_ BK285 1, bt_ BK285 2, bt_ BK285 3, bt_ BK285 4, bt_ BK285 5, bt_ BK281 0, bt_ BK281 1, bt_ BK281 2, bt_ BK281 3, bt_ BK281 4, (hd_ HB hw286_0), (hd_ HB hw286_1), (hd_ HB hw286_2), (hd_ HB hw286_3), (hd_ HB hw286_4), (hd_ HB hw286_5)⟩ (fun hHeld => ?_); refine with_tabW spec_FairOk.tab7 spec_FairOk.bits7 (fun HT_ HW_ => ?_)
                generalize w45.drew = w46 at BK281 BK285 HB hx286_0 hx286_1 hx286_2 hx286_3 hx286_4 hx286_5 hHeld ⊢
                refine ps_ 0 35 (bs 38 1) HT_ ?_
                refine tk_ 1 36 (bs 38 2) HT_ HW_ hHeld ?_
                refine ps_ 2 37 (bs 38 3) HT_ ?_
                refine ps_ 3 38 (bs 38 4) HT_ ?_
                refine ps_ 4 39 (bs 38 5) HT_ ?_
                refine tk_ 5 40 (bs 38 6) HT_ HW_ hHeld ?_
                refine ps_ 6 41 (bs 38 7) HT_ ?_
                refine ps_ 7 42 (bs 38 8) HT_ ?_
                refine ps_ 8 43 (bs 38 9) HT_ ?_
                refine ps_ 9 44 (bs 38 10) HT_ ?_
                refine ps_ 10 45 (bs 38 11) HT_ ?_
                refine ps_ 11 46 (bs 38 12) HT_ ?_
                refine ps_ 12 47 (bs 38 13) HT_ ?_
                refine ps_ 14 49 (bm 38 24575) HT_ ?_
                refine ps_ 15 50 (bm 38 57343) HT_ ?_
                refine ps_ 19 54 (bm 38 581631) HT_ ?_
                refine tk_ 13 48 (bm 38 589823) HT_ HW_ hHeld ?_
                refine ps_ 16 51 (bm 38 655359) HT_ ?_
                refine ps_ 17 52 (bm 38 786431) HT_ ?_
                refine tk_ 18 53 (bs 38 20) HT_ HW_ hHeld ?_
                refine tk_ 20 55 (bs 38 21) HT_ HW_ hHeld ?_
                refine ps_ 21 56 (bs 38 22) HT_ ?_
                refine ps_ 22 57 (bs 38 23) HT_ ?_
                refine ps_ 23 58 (bs 38 24) HT_ ?_
                refine ps_ 24 59 (bs 38 25) HT_ ?_
                refine ps_ 25 60 (bs 38 26) HT_ ?_
                refine tk_ 26 61 (bs 38 27) HT_ HW_ hHeld ?_
                refine on_ 27 (some 62) (bs 38 28) HT_ (fun K hK => ?_)
                refine gs_ Try.func41 #[.int .i64 ((rd_T38 l0_4 x3_2).f1)] ?_
                with_reducible refine (spec_Stride.calls ((rd_T38 l0_4 x3_2).f1) t287 _ A40.out).mono ?_
                rintro e w' ⟨rfl, ⟨nd, rfl⟩⟩
                refine ⟨_, rfl, ?_⟩
                refine hK.out _ _ ⟨bt_ BK285 0, bt_ BK285 1, bt_ BK285 2, bt_ BK285 3, bt_ BK285 4, bt_ BK285 5, bt_ BK281 0, bt_ BK281 1, bt_ BK281 2, bt_ BK281 3, bt_ BK281 4, (hd_ HB hw286_0), (hd_ HB hw286_1), (hd_ HB hw286_2), (hd_ HB hw286_3), (hd_ HB hw286_4), (hd_ HB hw286_5)⟩ (fun hHeld => ?_)
                clear hK K
                refine norm_ (a' := ?_) ?_ ?_
                rotate_left
                ·show Act.put _ (some 62) _ = _
                 simp only [Act.put, ls0_, ls1_, ls2_, i64_w, i32_w]
                 rfl
                refine ps_ 28 63 (bs 38 29) HT_ ?_
                refine ps_ 29 64 (bs 38 30) HT_ ?_
                refine ps_ 30 65 (bs 38 31) HT_ ?_
                refine ps_ 31 66 (bs 38 32) HT_ ?_
                refine ps_ 33 68 (bm 38 12884901887) HT_ ?_
                refine tk_ 32 67 (bs 38 34) HT_ HW_ hHeld ?_
                refine tk_ 34 69 (bs 38 35) HT_ HW_ hHeld ?_
                refine on_ 35 (some 70) (bs 38 36) HT_ (fun K hK => ?_)
                refine gs_ Try.func49 #[.agg #[.int .i64 ((rd_T38 l0_4 x3_2).f3.f0), .int .i64 ((rd_T38 l0_4 x3_2).f3.f1), .int .i64 ((rd_T38 l0_4 x3_2).f3.f2)], .int .i64 a0_0] ?_
                with_reducible refine (spec_Narrow.calls ((rd_T38 l0_4 x3_2).f3.f0) ((rd_T38 l0_4 x3_2).f3.f1) ((rd_T38 l0_4 x3_2).f3.f2) a0_0 t288 _ A44.out).mono ?_
                rintro e w47 ⟨rfl, hb⟩
                refine ⟨_, rfl, ?_⟩
                replace BK281 := bb_ BK281 hb; replace BK285 := bb_ BK285 hb; replace HB := Aside0.mk (below_step (bf_ HB) hb); (try clear hb); (try clear hb2); (try clear hk); (try clear hi)
                refine hK.out _ _ ⟨bt_ BK285 0, bt_ BK285 1, bt_ BK285 2, bt_ BK285 3, bt_ BK285 4, bt_ BK285 5, bt_ BK281 0, bt_ BK281 1, bt_ BK281 2, bt_ BK281 3, bt_ BK281 4, (hd_ HB hw286_0), (hd_ HB hw286_1), (hd_ HB hw286_2), (hd_ HB hw286_3), (hd_ HB hw286_4), (hd_ HB hw286_5)⟩ (fun hHeld => ?_)
                clear hK K
                refine norm_ (a' := ?_) ?_ ?_
                rotate_left
                ·show Act.put _ (some 70) _ = _
                 simp only [Act.put, ls0_, ls1_, ls2_, i64_w, i32_w]
                 rfl
                refine ps_ 36 71 (bs 38 37) HT_ ?_
                refine ps_ 37 72 (bs 38 38) HT_ ?_
                refine done_ (done_of HT_.out (by kernel_rfl)) ?_
                try go_wp2
                go_meet
                case rel => exact ⟨_, (!t288), (by first | rfl | (simp; done) | (simp [*]; done)), H', ⟨by have := HJ1.out; have := HK2.out; first | omega | exact Nat.le_refl _⟩, ⟨bk_ BK281⟩, ⟨bk_ BK285⟩, ⟨bf_ HB⟩⟩
             ·rw [if_neg c36] at H
              exact absurd H (by simp)
            ·rw [if_neg c35] at H
             exact absurd H (by simp)
           ·rw [if_neg c33] at H
            have c33b0 : decide (0 < x3_2) = false := decide_eq_false c33
            clear c33
            replace H := Option.bind_eq_some_iff.mp H
            obtain ⟨t289, A480, H⟩ := H
            replace H : (if t289 = 0 then (spec_FairOk.j2 k2 x3_2 true a0_0 a0_1 a0_2 a0_3 l0_4 ((rd_T38 l0_4 x3_2).f0) ((rd_T38 l0_4 x3_2).f1) ((rd_T38 l0_4 x3_2).f2) ((rd_T38 l0_4 x3_2).f3.f0) ((rd_T38 l0_4 x3_2).f3.f1) ((rd_T38 l0_4 x3_2).f3.f2)) else ((spec_Narrow.f ((rd_T38 l0_4 x3_2).f3.f0) ((rd_T38 l0_4 x3_2).f3.f1) ((rd_T38 l0_4 x3_2).f3.f2) a0_0).bind fun t290 => (spec_FairOk.j2 k2 x3_2 (!t290) a0_0 a0_1 a0_2 a0_3 l0_4 ((rd_T38 l0_4 x3_2).f0) ((rd_T38 l0_4 x3_2).f1) ((rd_T38 l0_4 x3_2).f2) ((rd_T38 l0_4 x3_2).f3.f0) ((rd_T38 l0_4 x3_2).f3.f1) ((rd_T38 l0_4 x3_2).f3.f2)))) = some r := H
            have A48 := Aside0.mk A480
            clear A480
            by_cases c49 : t289 = 0
            ·rw [if_pos c49] at H
             have c49b0 : (t289 == 0) = true := beq_iff_eq.mpr c49
             have c49b1 : (t289 != 0) = false := bne_eq_false_iff_eq.mpr c49
             clear c49
             have H' := Aside0.mk H
             clear H
             try go_wp2
             generalize hW_ : ((((((w24.setCell ⟨gb285, 0, none⟩ (.int .i64 ((rd_T38 l0_4 x3_2).f0))).setCell ⟨gb285, 1, none⟩ (.int .i64 ((rd_T38 l0_4 x3_2).f1))).setCell ⟨gb285, 2, none⟩ (.bool ((rd_T38 l0_4 x3_2).f2))).setCell ⟨gb285, 3, none⟩ (.int .i64 ((rd_T38 l0_4 x3_2).f3.f0))).setCell ⟨gb285, 4, none⟩ (.int .i64 ((rd_T38 l0_4 x3_2).f3.f1))).setCell ⟨gb285, 5, none⟩ (.int .i64 ((rd_T38 l0_4 x3_2).f3.f2))) = w50
             replace BK281 := fc6_ hW_ BK281 NB281_285
             replace BK285 : Aside0 (w50.heap[gb285]? = some (.cells #[.int .i64 ((rd_T38 l0_4 x3_2).f0), .int .i64 ((rd_T38 l0_4 x3_2).f1), .bool ((rd_T38 l0_4 x3_2).f2), .int .i64 ((rd_T38 l0_4 x3_2).f3.f0), .int .i64 ((rd_T38 l0_4 x3_2).f3.f1), .int .i64 ((rd_T38 l0_4 x3_2).f3.f2)] 38 (0, 0))) := pc6_ hW_ BK285
             replace HB : Aside0 (Below w.heap.size w w50) := ⟨by cases hW_; exact bf_ HB⟩
             clear hW_; replace BK281 := Aside0.mk (blk_drew BK281.out); replace BK285 := Aside0.mk (blk_drew BK285.out); replace HB := Aside0.mk (below_drew1 HB.out)
             refine start_ (n := 38) (S := fun w' => cw_ w' gb285 0 (.int .i64 ((rd_T38 l0_4 x3_2).f0)) ∧ cw_ w' gb285 1 (.int .i64 ((rd_T38 l0_4 x3_2).f1)) ∧ cw_ w' gb285 2 (.bool ((rd_T38 l0_4 x3_2).f2)) ∧ cw_ w' gb285 3 (.int .i64 ((rd_T38 l0_4 x3_2).f3.f0)) ∧ cw_ w' gb285 4 (.int .i64 ((rd_T38 l0_4 x3_2).f3.f1)) ∧ cw_ w' gb285 5 (.int .i64 ((rd_T38 l0_4 x3_2).f3.f2))) (ds := []) (bs 38 0) (by kernel_rfl) rfl rfl ⟨bt_ BK285 0, bt_ BK285 1, bt_ BK285 2, bt_ BK285 3, bt_ BK285 4, bt_ BK285 5⟩ (fun hHeld => ?_); refine with_tabW spec_FairOk.tab7 spec_FairOk.bits7 (fun HT_ HW_ => ?_)
             generalize w50.drew = w51 at BK281 BK285 HB hHeld ⊢
             refine ps_ 0 35 (bs 38 1) HT_ ?_
             refine tk_ 1 36 (bs 38 2) HT_ HW_ hHeld ?_
             refine ps_ 2 37 (bs 38 3) HT_ ?_
             refine ps_ 3 38 (bs 38 4) HT_ ?_
             refine ps_ 4 39 (bs 38 5) HT_ ?_
             refine tk_ 5 40 (bs 38 6) HT_ HW_ hHeld ?_
             refine ps_ 6 41 (bs 38 7) HT_ ?_
             refine ps_ 7 42 (bs 38 8) HT_ ?_
             refine ps_ 8 43 (bs 38 9) HT_ ?_
             refine ps_ 9 44 (bs 38 10) HT_ ?_
             refine ps_ 10 45 (bs 38 11) HT_ ?_
             refine ps_ 11 46 (bs 38 12) HT_ ?_
             refine pu_ 12 47 (bs 38 13) HT_ ?_
             refine pu_ 13 48 (bs 38 14) HT_ ?_
             refine pu_ 14 49 (bs 38 15) HT_ ?_
             refine pu_ 15 50 (bs 38 16) HT_ ?_
             refine pu_ 16 51 (bs 38 17) HT_ ?_
             refine pu_ 17 52 (bs 38 18) HT_ ?_
             refine pu_ 18 53 (bs 38 19) HT_ ?_
             refine pu_ 19 54 (bs 38 20) HT_ ?_
             refine pu_ 20 55 (bs 38 21) HT_ ?_
             refine pu_ 21 56 (bs 38 22) HT_ ?_
             refine ps_ 22 57 (bs 38 23) HT_ ?_
             refine ps_ 23 58 (bs 38 24) HT_ ?_
             refine ps_ 24 59 (bs 38 25) HT_ ?_
             refine ps_ 25 60 (bs 38 26) HT_ ?_
             refine tk_ 26 61 (bs 38 27) HT_ HW_ hHeld ?_
             refine on_ 27 (some 62) (bs 38 28) HT_ (fun K hK => ?_)
             refine gs_ Try.func41 #[.int .i64 ((rd_T38 l0_4 x3_2).f1)] ?_
             with_reducible refine (spec_Stride.calls ((rd_T38 l0_4 x3_2).f1) t289 _ A48.out).mono ?_
             rintro e w' ⟨rfl, ⟨nd, rfl⟩⟩
             refine ⟨_, rfl, ?_⟩
             refine hK.out _ _ ⟨bt_ BK285 0, bt_ BK285 1, bt_ BK285 2, bt_ BK285 3, bt_ BK285 4, bt_ BK285 5⟩ (fun hHeld => ?_)
             clear hK K
             refine norm_ (a' := ?_) ?_ ?_
             rotate_left
             ·show Act.put _ (some 62) _ = _
              simp only [Act.put, ls0_, ls1_, ls2_, i64_w, i32_w]
              rfl
             refine ps_ 28 63 (bs 38 29) HT_ ?_
             refine ps_ 29 64 (bs 38 30) HT_ ?_
             refine ps_ 30 65 (bs 38 31) HT_ ?_
             refine pu_ 31 66 (bs 38 32) HT_ ?_
             refine pu_ 32 67 (bs 38 33) HT_ ?_
             refine pu_ 33 68 (bs 38 34) HT_ ?_
             refine pu_ 34 69 (bs 38 35) HT_ ?_
             refine pu_ 35 70 (bs 38 36) HT_ ?_
             refine pu_ 36 71 (bs 38 37) HT_ ?_
             refine ps_ 37 72 (bs 38 38) HT_ ?_
             refine done_ (done_of HT_.out (by kernel_rfl)) ?_
             try go_wp2
             go_meet
             case rel => exact ⟨_, (true), (by first | rfl | (simp; done) | (simp [*]; done)), H', ⟨by have := HJ1.out; have := HK2.out; first | omega | exact Nat.le_refl _⟩, ⟨bk_ BK281⟩, ⟨bk_ BK285⟩, ⟨bf_ HB⟩⟩
            ·rw [if_neg c49] at H
             have c49b0 : (t289 == 0) = false := beq_eq_false_iff_ne.mpr c49
             have c49b1 : (t289 != 0) = true := bne_iff_ne.mpr c49
             replace H := Option.bind_eq_some_iff.mp H
             obtain ⟨t290, A520, H⟩ := H
             replace H : (spec_FairOk.j2 k2 x3_2 (!t290) a0_0 a0_1 a0_2 a0_3 l0_4 ((rd_T38 l0_4 x3_2).f0) ((rd_T38 l0_4 x3_2).f1) ((rd_T38 l0_4 x3_2).f2) ((rd_T38 l0_4 x3_2).f3.f0) ((rd_T38 l0_4 x3_2).f3.f1) ((rd_T38 l0_4 x3_2).f3.f2)) = some r := H
             have A52 := Aside0.mk A520
             clear A520
             have H' := Aside0.mk H
             clear H
             try go_wp2
             generalize hW_ : ((((((w24.setCell ⟨gb285, 0, none⟩ (.int .i64 ((rd_T38 l0_4 x3_2).f0))).setCell ⟨gb285, 1, none⟩ (.int .i64 ((rd_T38 l0_4 x3_2).f1))).setCell ⟨gb285, 2, none⟩ (.bool ((rd_T38 l0_4 x3_2).f2))).setCell ⟨gb285, 3, none⟩ (.int .i64 ((rd_T38 l0_4 x3_2).f3.f0))).setCell ⟨gb285, 4, none⟩ (.int .i64 ((rd_T38 l0_4 x3_2).f3.f1))).setCell ⟨gb285, 5, none⟩ (.int .i64 ((rd_T38 l0_4 x3_2).f3.f2))) = w53
             replace BK281 := fc6_ hW_ BK281 NB281_285
             replace BK285 : Aside0 (w53.heap[gb285]? = some (.cells #[.int .i64 ((rd_T38 l0_4 x3_2).f0), .int .i64 ((rd_T38 l0_4 x3_2).f1), .bool ((rd_T38 l0_4 x3_2).f2), .int .i64 ((rd_T38 l0_4 x3_2).f3.f0), .int .i64 ((rd_T38 l0_4 x3_2).f3.f1), .int .i64 ((rd_T38 l0_4 x3_2).f3.f2)] 38 (0, 0))) := pc6_ hW_ BK285
             replace HB : Aside0 (Below w.heap.size w w53) := ⟨by cases hW_; exact bf_ HB⟩
             clear hW_; replace BK281 := Aside0.mk (blk_drew BK281.out); replace BK285 := Aside0.mk (blk_drew BK285.out); replace HB := Aside0.mk (below_drew1 HB.out)
             refine start_ (n := 38) (S := fun w' => cw_ w' gb285 0 (.int .i64 ((rd_T38 l0_4 x3_2).f0)) ∧ cw_ w' gb285 1 (.int .i64 ((rd_T38 l0_4 x3_2).f1)) ∧ cw_ w' gb285 2 (.bool ((rd_T38 l0_4 x3_2).f2)) ∧ cw_ w' gb285 3 (.int .i64 ((rd_T38 l0_4 x3_2).f3.f0)) ∧ cw_ w' gb285 4 (.int .i64 ((rd_T38 l0_4 x3_2).f3.f1)) ∧ cw_ w' gb285 5 (.int .i64 ((rd_T38 l0_4 x3_2).f3.f2)) ∧ cw_ w' gb281 0 (.int .i64 a0_0) ∧ cw_ w' gb281 1 (.int .i64 a0_1) ∧ cw_ w' gb281 2 (.int .i64 a0_2) ∧ cw_ w' gb281 3 (.int .i64 a0_3) ∧ cw_ w' gb281 4 (.slice (some ad284) l0_4.length c0_4)) (ds := []) (bs 38 0) (by kernel_rfl) rfl rfl ⟨bt_ BK285 0, bt_ BK285 1, bt_ BK285 2, bt_ BK285 3, bt_ BK285 4, bt_ BK285 5, bt_ BK281 0, bt_ BK281 1, bt_ BK281 2, bt_ BK281 3, bt_ BK281 4⟩ (fun hHeld => ?_); refine with_tabW spec_FairOk.tab7 spec_FairOk.bits7 (fun HT_ HW_ => ?_)
             generalize w53.drew = w54 at BK281 BK285 HB hHeld ⊢
             refine ps_ 0 35 (bs 38 1) HT_ ?_
             refine tk_ 1 36 (bs 38 2) HT_ HW_ hHeld ?_
             refine ps_ 2 37 (bs 38 3) HT_ ?_
             refine ps_ 3 38 (bs 38 4) HT_ ?_
             refine ps_ 4 39 (bs 38 5) HT_ ?_
             refine tk_ 5 40 (bs 38 6) HT_ HW_ hHeld ?_
             refine ps_ 6 41 (bs 38 7) HT_ ?_
             refine ps_ 7 42 (bs 38 8) HT_ ?_
             refine ps_ 8 43 (bs 38 9) HT_ ?_
             refine ps_ 9 44 (bs 38 10) HT_ ?_
             refine ps_ 10 45 (bs 38 11) HT_ ?_
             refine ps_ 11 46 (bs 38 12) HT_ ?_
             refine pu_ 12 47 (bs 38 13) HT_ ?_
             refine pu_ 13 48 (bs 38 14) HT_ ?_
             refine pu_ 14 49 (bs 38 15) HT_ ?_
             refine pu_ 15 50 (bs 38 16) HT_ ?_
             refine pu_ 16 51 (bs 38 17) HT_ ?_
             refine pu_ 17 52 (bs 38 18) HT_ ?_
             refine pu_ 18 53 (bs 38 19) HT_ ?_
             refine pu_ 19 54 (bs 38 20) HT_ ?_
             refine pu_ 20 55 (bs 38 21) HT_ ?_
             refine pu_ 21 56 (bs 38 22) HT_ ?_
             refine ps_ 22 57 (bs 38 23) HT_ ?_
             refine ps_ 23 58 (bs 38 24) HT_ ?_
             refine ps_ 24 59 (bs 38 25) HT_ ?_
             refine ps_ 25 60 (bs 38 26) HT_ ?_
             refine tk_ 26 61 (bs 38 27) HT_ HW_ hHeld ?_
             refine on_ 27 (some 62) (bs 38 28) HT_ (fun K hK => ?_)
             refine gs_ Try.func41 #[.int .i64 ((rd_T38 l0_4 x3_2).f1)] ?_
             with_reducible refine (spec_Stride.calls ((rd_T38 l0_4 x3_2).f1) t289 _ A48.out).mono ?_
             rintro e w' ⟨rfl, ⟨nd, rfl⟩⟩
             refine ⟨_, rfl, ?_⟩
             refine hK.out _ _ ⟨bt_ BK285 0, bt_ BK285 1, bt_ BK285 2, bt_ BK285 3, bt_ BK285 4, bt_ BK285 5, bt_ BK281 0, bt_ BK281 1, bt_ BK281 2, bt_ BK281 3, bt_ BK281 4⟩ (fun hHeld => ?_)
             clear hK K
             refine norm_ (a' := ?_) ?_ ?_
             rotate_left
             ·show Act.put _ (some 62) _ = _
              simp only [Act.put, ls0_, ls1_, ls2_, i64_w, i32_w]
              rfl
             refine ps_ 28 63 (bs 38 29) HT_ ?_
             refine ps_ 29 64 (bs 38 30) HT_ ?_
             refine ps_ 30 65 (bs 38 31) HT_ ?_
             refine ps_ 31 66 (bs 38 32) HT_ ?_
             refine ps_ 33 68 (bm 38 12884901887) HT_ ?_
             refine tk_ 32 67 (bs 38 34) HT_ HW_ hHeld ?_
             refine tk_ 34 69 (bs 38 35) HT_ HW_ hHeld ?_
             refine on_ 35 (some 70) (bs 38 36) HT_ (fun K hK => ?_)
             refine gs_ Try.func49 #[.agg #[.int .i64 ((rd_T38 l0_4 x3_2).f3.f0), .int .i64 ((rd_T38 l0_4 x3_2).f3.f1), .int .i64 ((rd_T38 l0_4 x3_2).f3.f2)], .int .i64 a0_0] ?_
             with_reducible refine (spec_Narrow.calls ((rd_T38 l0_4 x3_2).f3.f0) ((rd_T38 l0_4 x3_2).f3.f1) ((rd_T38 l0_4 x3_2).f3.f2) a0_0 t290 _ A52.out).mono ?_
             rintro e w55 ⟨rfl, hb⟩
             refine ⟨_, rfl, ?_⟩
             replace BK281 := bb_ BK281 hb; replace BK285 := bb_ BK285 hb; replace HB := Aside0.mk (below_step (bf_ HB) hb); (try clear hb); (try clear hb2); (try clear hk); (try clear hi)
             refine hK.out _ _ ⟨bt_ BK285 0, bt_ BK285 1, bt_ BK285 2, bt_ BK285 3, bt_ BK285 4, bt_ BK285 5, bt_ BK281 0, bt_ BK281 1, bt_ BK281 2, bt_ BK281 3, bt_ BK281 4⟩ (fun hHeld => ?_)
             clear hK K
             refine norm_ (a' := ?_) ?_ ?_
             rotate_left
             ·show Act.put _ (some 70) _ = _
              simp only [Act.put, ls0_, ls1_, ls2_, i64_w, i32_w]
              rfl
             refine ps_ 36 71 (bs 38 37) HT_ ?_
             refine ps_ 37 72 (bs 38 38) HT_ ?_
             refine done_ (done_of HT_.out (by kernel_rfl)) ?_
             try go_wp2
             go_meet
             case rel => exact ⟨_, (!t290), (by first | rfl | (simp; done) | (simp [*]; done)), H', ⟨by have := HJ1.out; have := HK2.out; first | omega | exact Nat.le_refl _⟩, ⟨bk_ BK281⟩, ⟨bk_ BK285⟩, ⟨bf_ HB⟩⟩
        case rest =>
         clear HC22; (try clear p2); (try clear c4); (try clear c41); (try clear c49); (try clear c49b0); (try clear c49b1)
         obtain ⟨kq, x72_21, rfl, HA, HJ21, BK281, BK285, HB⟩ := hcut
         cases kq with
         | zero => exact absurd HA.out (by simp [spec_FairOk.j2])
         | succ kj21 =>
          have H := HA.out
          clear HA
          simp only [spec_FairOk.j2] at H
          by_cases c56 : x72_21 = true
          ·subst c56
           have H1 : (some false) = some r := by rw [if_pos rfl] at H; exact H
           clear H
           have H := H1
           clear H1
           obtain rfl := Option.some.inj H
           go_wp2
           go_ret
           exact ⟨by first | rfl | (simp [errW_none, errW_some] <;> rfl) | (simp [*, errW_none, errW_some] <;> rfl), bf_ HB⟩
          ·replace c56 := Bool.eq_false_iff.mpr c56
           subst c56
           have H1 : ((spec_VecTop.f ((rd_T38 l0_4 x3_2).f3.f0) ((rd_T38 l0_4 x3_2).f3.f1) ((rd_T38 l0_4 x3_2).f3.f2)).bind fun t291 => ((spec_VecTop.f a0_1 a0_2 a0_3).bind fun t292 => ((spec_Stride.f ((rd_T38 l0_4 x3_2).f1)).bind fun t293 => (if t291 > (wrap64 (t292 + (wrap64 (t293 * 2000)))) then (some false) else (if ((rd_T38 l0_4 x3_2).f2) = true then ((spec_VecTop.f ((rd_T38 l0_4 x3_2).f3.f0) ((rd_T38 l0_4 x3_2).f3.f1) ((rd_T38 l0_4 x3_2).f3.f2)).bind fun t294 => ((spec_VecTop.f a0_1 a0_2 a0_3).bind fun t295 => (if t294 < t295 then (some false) else (spec_FairOk.l0 kj21 (wrap64 (x3_2 + 1)) a0_0 a0_1 a0_2 a0_3 l0_4)))) else (spec_FairOk.l0 kj21 (wrap64 (x3_2 + 1)) a0_0 a0_1 a0_2 a0_3 l0_4)))))) = some r := by rw [if_neg (show ¬ (false = true) by decide)] at H; exact H
           clear H
           have H := H1
           clear H1
           replace H := Option.bind_eq_some_iff.mp H
           obtain ⟨t291, A570, H⟩ := H
           replace H : ((spec_VecTop.f a0_1 a0_2 a0_3).bind fun t292 => ((spec_Stride.f ((rd_T38 l0_4 x3_2).f1)).bind fun t293 => (if t291 > (wrap64 (t292 + (wrap64 (t293 * 2000)))) then (some false) else (if ((rd_T38 l0_4 x3_2).f2) = true then ((spec_VecTop.f ((rd_T38 l0_4 x3_2).f3.f0) ((rd_T38 l0_4 x3_2).f3.f1) ((rd_T38 l0_4 x3_2).f3.f2)).bind fun t294 => ((spec_VecTop.f a0_1 a0_2 a0_3).bind fun t295 => (if t294 < t295 then (some false) else (spec_FairOk.l0 kj21 (wrap64 (x3_2 + 1)) a0_0 a0_1 a0_2 a0_3 l0_4)))) else (spec_FairOk.l0 kj21 (wrap64 (x3_2 + 1)) a0_0 a0_1 a0_2 a0_3 l0_4))))) = some r := H
           have A57 := Aside0.mk A570
           clear A570
           replace H := Option.bind_eq_some_iff.mp H
           obtain ⟨t292, A580, H⟩ := H
           replace H : ((spec_Stride.f ((rd_T38 l0_4 x3_2).f1)).bind fun t293 => (if t291 > (wrap64 (t292 + (wrap64 (t293 * 2000)))) then (some false) else (if ((rd_T38 l0_4 x3_2).f2) = true then ((spec_VecTop.f ((rd_T38 l0_4 x3_2).f3.f0) ((rd_T38 l0_4 x3_2).f3.f1) ((rd_T38 l0_4 x3_2).f3.f2)).bind fun t294 => ((spec_VecTop.f a0_1 a0_2 a0_3).bind fun t295 => (if t294 < t295 then (some false) else (spec_FairOk.l0 kj21 (wrap64 (x3_2 + 1)) a0_0 a0_1 a0_2 a0_3 l0_4)))) else (spec_FairOk.l0 kj21 (wrap64 (x3_2 + 1)) a0_0 a0_1 a0_2 a0_3 l0_4)))) = some r := H
           have A58 := Aside0.mk A580
           clear A580
           replace H := Option.bind_eq_some_iff.mp H
           obtain ⟨t293, A590, H⟩ := H
           replace H : (if t291 > (wrap64 (t292 + (wrap64 (t293 * 2000)))) then (some false) else (if ((rd_T38 l0_4 x3_2).f2) = true then ((spec_VecTop.f ((rd_T38 l0_4 x3_2).f3.f0) ((rd_T38 l0_4 x3_2).f3.f1) ((rd_T38 l0_4 x3_2).f3.f2)).bind fun t294 => ((spec_VecTop.f a0_1 a0_2 a0_3).bind fun t295 => (if t294 < t295 then (some false) else (spec_FairOk.l0 kj21 (wrap64 (x3_2 + 1)) a0_0 a0_1 a0_2 a0_3 l0_4)))) else (spec_FairOk.l0 kj21 (wrap64 (x3_2 + 1)) a0_0 a0_1 a0_2 a0_3 l0_4))) = some r := H
           have A59 := Aside0.mk A590
           clear A590
           by_cases c60 : t291 > (wrap64 (t292 + (wrap64 (t293 * 2000))))
           ·rw [if_pos c60] at H
            have c60b0 : decide ((wrap64 (t292 + (wrap64 (t293 * 2000)))) < t291) = true := decide_eq_true c60
            clear c60
            obtain rfl := Option.some.inj H
            try go_wp2
            replace BK281 := Aside0.mk (blk_drew BK281.out); replace BK285 := Aside0.mk (blk_drew BK285.out); replace HB := Aside0.mk (below_drew1 HB.out)
            refine start_ (n := 25) (S := fun w' => cw_ w' gb285 0 (.int .i64 ((rd_T38 l0_4 x3_2).f0)) ∧ cw_ w' gb285 1 (.int .i64 ((rd_T38 l0_4 x3_2).f1)) ∧ cw_ w' gb285 2 (.bool ((rd_T38 l0_4 x3_2).f2)) ∧ cw_ w' gb285 3 (.int .i64 ((rd_T38 l0_4 x3_2).f3.f0)) ∧ cw_ w' gb285 4 (.int .i64 ((rd_T38 l0_4 x3_2).f3.f1)) ∧ cw_ w' gb285 5 (.int .i64 ((rd_T38 l0_4 x3_2).f3.f2)) ∧ cw_ w' gb281 0 (.int .i64 a0_0) ∧ cw_ w' gb281 1 (.int .i64 a0_1) ∧ cw_ w' gb281 2 (.int .i64 a0_2) ∧ cw_ w' gb281 3 (.int .i64 a0_3) ∧ cw_ w' gb281 4 (.slice (some ad284) l0_4.length c0_4)) (ds := []) (bs 25 0) (by kernel_rfl) rfl rfl ⟨bt_ BK285 0, bt_ BK285 1, bt_ BK285 2, bt_ BK285 3, bt_ BK285 4, bt_ BK285 5, bt_ BK281 0, bt_ BK281 1, bt_ BK281 2, bt_ BK281 3, bt_ BK281 4⟩ (fun hHeld => ?_); refine with_tabW spec_FairOk.tab9 spec_FairOk.bits9 (fun HT_ HW_ => ?_)
            generalize wc.drew = w61 at BK281 BK285 HB hHeld ⊢
            refine ps_ 0 73 (bs 25 1) HT_ ?_
            refine ps_ 3 76 (bm 25 9) HT_ ?_
            refine ps_ 6 79 (bm 25 73) HT_ ?_
            refine tk_ 1 74 (bm 25 75) HT_ HW_ hHeld ?_
            refine tk_ 4 77 (bm 25 91) HT_ HW_ hHeld ?_
            refine tk_ 7 80 (bm 25 219) HT_ HW_ hHeld ?_
            refine on_ 2 (some 75) (bm 25 223) HT_ (fun K hK => ?_)
            refine gs_ Try.func40 #[.agg #[.int .i64 ((rd_T38 l0_4 x3_2).f3.f0), .int .i64 ((rd_T38 l0_4 x3_2).f3.f1), .int .i64 ((rd_T38 l0_4 x3_2).f3.f2)]] ?_
            with_reducible refine (spec_VecTop.calls ((rd_T38 l0_4 x3_2).f3.f0) ((rd_T38 l0_4 x3_2).f3.f1) ((rd_T38 l0_4 x3_2).f3.f2) t291 _ A57.out).mono ?_
            rintro e w62 ⟨rfl, hb⟩
            refine ⟨_, rfl, ?_⟩
            replace BK281 := bb_ BK281 hb; replace BK285 := bb_ BK285 hb; replace HB := Aside0.mk (below_step (bf_ HB) hb); (try clear hb); (try clear hb2); (try clear hk); (try clear hi)
            refine hK.out _ _ ⟨bt_ BK285 0, bt_ BK285 1, bt_ BK285 2, bt_ BK285 3, bt_ BK285 4, bt_ BK285 5, bt_ BK281 0, bt_ BK281 1, bt_ BK281 2, bt_ BK281 3, bt_ BK281 4⟩ (fun hHeld => ?_)
            clear hK K
            refine norm_ (a' := ?_) ?_ ?_
            rotate_left
            ·show Act.put _ (some 75) _ = _
             simp only [Act.put, ls0_, ls1_, ls2_, i64_w, i32_w]
             rfl
            refine on_ 5 (some 78) (bs 25 8) HT_ (fun K hK => ?_)
            refine gs_ Try.func40 #[.agg #[.int .i64 a0_1, .int .i64 a0_2, .int .i64 a0_3]] ?_
            with_reducible refine (spec_VecTop.calls a0_1 a0_2 a0_3 t292 _ A58.out).mono ?_
            rintro e w63 ⟨rfl, hb⟩
            refine ⟨_, rfl, ?_⟩
            replace BK281 := bb_ BK281 hb; replace BK285 := bb_ BK285 hb; replace HB := Aside0.mk (below_step (bf_ HB) hb); (try clear hb); (try clear hb2); (try clear hk); (try clear hi)
            refine hK.out _ _ ⟨bt_ BK285 0, bt_ BK285 1, bt_ BK285 2, bt_ BK285 3, bt_ BK285 4, bt_ BK285 5, bt_ BK281 0, bt_ BK281 1, bt_ BK281 2, bt_ BK281 3, bt_ BK281 4⟩ (fun hHeld => ?_)
            clear hK K
            refine norm_ (a' := ?_) ?_ ?_
            rotate_left
            ·show Act.put _ (some 78) _ = _
             simp only [Act.put, ls0_, ls1_, ls2_, i64_w, i32_w]
             rfl
            refine on_ 8 (some 81) (bs 25 9) HT_ (fun K hK => ?_)
            refine gs_ Try.func41 #[.int .i64 ((rd_T38 l0_4 x3_2).f1)] ?_
            with_reducible refine (spec_Stride.calls ((rd_T38 l0_4 x3_2).f1) t293 _ A59.out).mono ?_
            rintro e w' ⟨rfl, ⟨nd, rfl⟩⟩
            refine ⟨_, rfl, ?_⟩
            refine hK.out _ _ ⟨bt_ BK285 0, bt_ BK285 1, bt_ BK285 2, bt_ BK285 3, bt_ BK285 4, bt_ BK285 5, bt_ BK281 0, bt_ BK281 1, bt_ BK281 2, bt_ BK281 3, bt_ BK281 4⟩ (fun hHeld => ?_)
            clear hK K
            refine norm_ (a' := ?_) ?_ ?_
            rotate_left
            ·show Act.put _ (some 81) _ = _
             simp only [Act.put, ls0_, ls1_, ls2_, i64_w, i32_w]
             rfl
            refine ps_ 9 82 (bs 25 10) HT_ ?_
            refine ps_ 10 83 (bs 25 11) HT_ ?_
            refine ps_ 11 84 (bs 25 12) HT_ ?_
            refine ps_ 12 85 (bs 25 13) HT_ ?_
            refine pu_ 13 86 (bs 25 14) HT_ ?_
            refine pu_ 14 87 (bs 25 15) HT_ ?_
            refine pu_ 15 88 (bs 25 16) HT_ ?_
            refine pu_ 16 89 (bs 25 17) HT_ ?_
            refine pu_ 17 90 (bs 25 18) HT_ ?_
            refine pu_ 18 91 (bs 25 19) HT_ ?_
            refine pu_ 19 92 (bs 25 20) HT_ ?_
            refine pu_ 20 93 (bs 25 21) HT_ ?_
            refine pu_ 21 94 (bs 25 22) HT_ ?_
            refine pu_ 22 95 (bs 25 23) HT_ ?_
            refine pu_ 23 96 (bs 25 24) HT_ ?_
            refine ps_ 24 97 (bs 25 25) HT_ ?_
            refine done_ (done_of HT_.out (by kernel_rfl)) ?_
            try go_wp2
            go_ret
            exact ⟨by first | rfl | (simp [errW_none, errW_some] <;> rfl) | (simp [*, errW_none, errW_some] <;> rfl), bf_ HB⟩
           ·rw [if_neg c60] at H
            have c60b0 : decide ((wrap64 (t292 + (wrap64 (t293 * 2000)))) < t291) = false := decide_eq_false c60
            clear c60
            by_cases c64 : ((rd_T38 l0_4 x3_2).f2) = true
            ·rw [if_pos c64] at H
             have c64b0 : ((rd_T38 l0_4 x3_2).f2) = true := c64
             clear c64
             replace H := Option.bind_eq_some_iff.mp H
             obtain ⟨t294, A650, H⟩ := H
             replace H : ((spec_VecTop.f a0_1 a0_2 a0_3).bind fun t295 => (if t294 < t295 then (some false) else (spec_FairOk.l0 kj21 (wrap64 (x3_2 + 1)) a0_0 a0_1 a0_2 a0_3 l0_4))) = some r := H
             have A65 := Aside0.mk A650
             clear A650
             replace H := Option.bind_eq_some_iff.mp H
             obtain ⟨t295, A660, H⟩ := H
             replace H : (if t294 < t295 then (some false) else (spec_FairOk.l0 kj21 (wrap64 (x3_2 + 1)) a0_0 a0_1 a0_2 a0_3 l0_4)) = some r := H
             have A66 := Aside0.mk A660
             clear A660
             by_cases c67 : t294 < t295
             ·rw [if_pos c67] at H
              have c67b0 : decide (t294 < t295) = true := decide_eq_true c67
              clear c67
              obtain rfl := Option.some.inj H
              try go_wp2
              replace BK281 := Aside0.mk (blk_drew BK281.out); replace BK285 := Aside0.mk (blk_drew BK285.out); replace HB := Aside0.mk (below_drew1 HB.out)
              refine start_ (n := 25) (S := fun w' => cw_ w' gb285 0 (.int .i64 ((rd_T38 l0_4 x3_2).f0)) ∧ cw_ w' gb285 1 (.int .i64 ((rd_T38 l0_4 x3_2).f1)) ∧ cw_ w' gb285 2 (.bool ((rd_T38 l0_4 x3_2).f2)) ∧ cw_ w' gb285 3 (.int .i64 ((rd_T38 l0_4 x3_2).f3.f0)) ∧ cw_ w' gb285 4 (.int .i64 ((rd_T38 l0_4 x3_2).f3.f1)) ∧ cw_ w' gb285 5 (.int .i64 ((rd_T38 l0_4 x3_2).f3.f2)) ∧ cw_ w' gb281 0 (.int .i64 a0_0) ∧ cw_ w' gb281 1 (.int .i64 a0_1) ∧ cw_ w' gb281 2 (.int .i64 a0_2) ∧ cw_ w' gb281 3 (.int .i64 a0_3) ∧ cw_ w' gb281 4 (.slice (some ad284) l0_4.length c0_4)) (ds := []) (bs 25 0) (by kernel_rfl) rfl rfl ⟨bt_ BK285 0, bt_ BK285 1, bt_ BK285 2, bt_ BK285 3, bt_ BK285 4, bt_ BK285 5, bt_ BK281 0, bt_ BK281 1, bt_ BK281 2, bt_ BK281 3, bt_ BK281 4⟩ (fun hHeld => ?_); refine with_tabW spec_FairOk.tab9 spec_FairOk.bits9 (fun HT_ HW_ => ?_)
              generalize wc.drew = w68 at BK281 BK285 HB hHeld ⊢
              refine ps_ 0 73 (bs 25 1) HT_ ?_
              refine ps_ 3 76 (bm 25 9) HT_ ?_
              refine ps_ 6 79 (bm 25 73) HT_ ?_
              refine tk_ 1 74 (bm 25 75) HT_ HW_ hHeld ?_
              refine tk_ 4 77 (bm 25 91) HT_ HW_ hHeld ?_
              refine tk_ 7 80 (bm 25 219) HT_ HW_ hHeld ?_
              refine on_ 2 (some 75) (bm 25 223) HT_ (fun K hK => ?_)
              refine gs_ Try.func40 #[.agg #[.int .i64 ((rd_T38 l0_4 x3_2).f3.f0), .int .i64 ((rd_T38 l0_4 x3_2).f3.f1), .int .i64 ((rd_T38 l0_4 x3_2).f3.f2)]] ?_
              with_reducible refine (spec_VecTop.calls ((rd_T38 l0_4 x3_2).f3.f0) ((rd_T38 l0_4 x3_2).f3.f1) ((rd_T38 l0_4 x3_2).f3.f2) t291 _ A57.out).mono ?_
              rintro e w69 ⟨rfl, hb⟩
              refine ⟨_, rfl, ?_⟩
              replace BK281 := bb_ BK281 hb; replace BK285 := bb_ BK285 hb; replace HB := Aside0.mk (below_step (bf_ HB) hb); (try clear hb); (try clear hb2); (try clear hk); (try clear hi)
              refine hK.out _ _ ⟨bt_ BK285 0, bt_ BK285 1, bt_ BK285 2, bt_ BK285 3, bt_ BK285 4, bt_ BK285 5, bt_ BK281 0, bt_ BK281 1, bt_ BK281 2, bt_ BK281 3, bt_ BK281 4⟩ (fun hHeld => ?_)
              clear hK K
              refine norm_ (a' := ?_) ?_ ?_
              rotate_left
              ·show Act.put _ (some 75) _ = _
               simp only [Act.put, ls0_, ls1_, ls2_, i64_w, i32_w]
               rfl
              refine on_ 5 (some 78) (bs 25 8) HT_ (fun K hK => ?_)
              refine gs_ Try.func40 #[.agg #[.int .i64 a0_1, .int .i64 a0_2, .int .i64 a0_3]] ?_
              with_reducible refine (spec_VecTop.calls a0_1 a0_2 a0_3 t292 _ A58.out).mono ?_
              rintro e w70 ⟨rfl, hb⟩
              refine ⟨_, rfl, ?_⟩
              replace BK281 := bb_ BK281 hb; replace BK285 := bb_ BK285 hb; replace HB := Aside0.mk (below_step (bf_ HB) hb); (try clear hb); (try clear hb2); (try clear hk); (try clear hi)
              refine hK.out _ _ ⟨bt_ BK285 0, bt_ BK285 1, bt_ BK285 2, bt_ BK285 3, bt_ BK285 4, bt_ BK285 5, bt_ BK281 0, bt_ BK281 1, bt_ BK281 2, bt_ BK281 3, bt_ BK281 4⟩ (fun hHeld => ?_)
              clear hK K
              refine norm_ (a' := ?_) ?_ ?_
              rotate_left
              ·show Act.put _ (some 78) _ = _
               simp only [Act.put, ls0_, ls1_, ls2_, i64_w, i32_w]
               rfl
              refine on_ 8 (some 81) (bs 25 9) HT_ (fun K hK => ?_)
              refine gs_ Try.func41 #[.int .i64 ((rd_T38 l0_4 x3_2).f1)] ?_
              with_reducible refine (spec_Stride.calls ((rd_T38 l0_4 x3_2).f1) t293 _ A59.out).mono ?_
              rintro e w' ⟨rfl, ⟨nd, rfl⟩⟩
              refine ⟨_, rfl, ?_⟩
              refine hK.out _ _ ⟨bt_ BK285 0, bt_ BK285 1, bt_ BK285 2, bt_ BK285 3, bt_ BK285 4, bt_ BK285 5, bt_ BK281 0, bt_ BK281 1, bt_ BK281 2, bt_ BK281 3, bt_ BK281 4⟩ (fun hHeld => ?_)
              clear hK K
              refine norm_ (a' := ?_) ?_ ?_
              rotate_left
              ·show Act.put _ (some 81) _ = _
               simp only [Act.put, ls0_, ls1_, ls2_, i64_w, i32_w]
               rfl
              refine ps_ 9 82 (bs 25 10) HT_ ?_
              refine ps_ 10 83 (bs 25 11) HT_ ?_
              refine ps_ 11 84 (bs 25 12) HT_ ?_
              refine ps_ 12 85 (bs 25 13) HT_ ?_
              refine ps_ 13 86 (bs 25 14) HT_ ?_
              refine tk_ 14 87 (bs 25 15) HT_ HW_ hHeld ?_
              refine ps_ 15 88 (bs 25 16) HT_ ?_
              refine ps_ 16 89 (bs 25 17) HT_ ?_
              refine ps_ 19 92 (bm 25 655359) HT_ ?_
              refine tk_ 17 90 (bm 25 786431) HT_ HW_ hHeld ?_
              refine tk_ 20 93 (bm 25 1835007) HT_ HW_ hHeld ?_
              refine on_ 18 (some 91) (bs 25 21) HT_ (fun K hK => ?_)
              refine gs_ Try.func40 #[.agg #[.int .i64 ((rd_T38 l0_4 x3_2).f3.f0), .int .i64 ((rd_T38 l0_4 x3_2).f3.f1), .int .i64 ((rd_T38 l0_4 x3_2).f3.f2)]] ?_
              with_reducible refine (spec_VecTop.calls ((rd_T38 l0_4 x3_2).f3.f0) ((rd_T38 l0_4 x3_2).f3.f1) ((rd_T38 l0_4 x3_2).f3.f2) t294 _ A65.out).mono ?_
              rintro e w71 ⟨rfl, hb⟩
              refine ⟨_, rfl, ?_⟩
              replace BK281 := bb_ BK281 hb; replace BK285 := bb_ BK285 hb; replace HB := Aside0.mk (below_step (bf_ HB) hb); (try clear hb); (try clear hb2); (try clear hk); (try clear hi)
              refine hK.out _ _ ⟨bt_ BK285 0, bt_ BK285 1, bt_ BK285 2, bt_ BK285 3, bt_ BK285 4, bt_ BK285 5, bt_ BK281 0, bt_ BK281 1, bt_ BK281 2, bt_ BK281 3, bt_ BK281 4⟩ (fun hHeld => ?_)
              clear hK K
              refine norm_ (a' := ?_) ?_ ?_
              rotate_left
              ·show Act.put _ (some 91) _ = _
               simp only [Act.put, ls0_, ls1_, ls2_, i64_w, i32_w]
               rfl
              refine on_ 21 (some 94) (bs 25 22) HT_ (fun K hK => ?_)
              refine gs_ Try.func40 #[.agg #[.int .i64 a0_1, .int .i64 a0_2, .int .i64 a0_3]] ?_
              with_reducible refine (spec_VecTop.calls a0_1 a0_2 a0_3 t295 _ A66.out).mono ?_
              rintro e w72 ⟨rfl, hb⟩
              refine ⟨_, rfl, ?_⟩
              replace BK281 := bb_ BK281 hb; replace BK285 := bb_ BK285 hb; replace HB := Aside0.mk (below_step (bf_ HB) hb); (try clear hb); (try clear hb2); (try clear hk); (try clear hi)
              refine hK.out _ _ ⟨bt_ BK285 0, bt_ BK285 1, bt_ BK285 2, bt_ BK285 3, bt_ BK285 4, bt_ BK285 5, bt_ BK281 0, bt_ BK281 1, bt_ BK281 2, bt_ BK281 3, bt_ BK281 4⟩ (fun hHeld => ?_)
              clear hK K
              refine norm_ (a' := ?_) ?_ ?_
              rotate_left
              ·show Act.put _ (some 94) _ = _
               simp only [Act.put, ls0_, ls1_, ls2_, i64_w, i32_w]
               rfl
              refine ps_ 22 95 (bs 25 23) HT_ ?_
              refine ps_ 23 96 (bs 25 24) HT_ ?_
              refine ps_ 24 97 (bs 25 25) HT_ ?_
              refine done_ (done_of HT_.out (by kernel_rfl)) ?_
              try go_wp2
              go_ret
              exact ⟨by first | rfl | (simp [errW_none, errW_some] <;> rfl) | (simp [*, errW_none, errW_some] <;> rfl), bf_ HB⟩
             ·rw [if_neg c67] at H
              have c67b0 : decide (t294 < t295) = false := decide_eq_false c67
              clear c67
              have H' := Aside0.mk H
              clear H
              try go_wp2
              replace BK281 := Aside0.mk (blk_drew BK281.out); replace BK285 := Aside0.mk (blk_drew BK285.out); replace HB := Aside0.mk (below_drew1 HB.out)
              refine start_ (n := 25) (S := fun w' => cw_ w' gb285 0 (.int .i64 ((rd_T38 l0_4 x3_2).f0)) ∧ cw_ w' gb285 1 (.int .i64 ((rd_T38 l0_4 x3_2).f1)) ∧ cw_ w' gb285 2 (.bool ((rd_T38 l0_4 x3_2).f2)) ∧ cw_ w' gb285 3 (.int .i64 ((rd_T38 l0_4 x3_2).f3.f0)) ∧ cw_ w' gb285 4 (.int .i64 ((rd_T38 l0_4 x3_2).f3.f1)) ∧ cw_ w' gb285 5 (.int .i64 ((rd_T38 l0_4 x3_2).f3.f2)) ∧ cw_ w' gb281 0 (.int .i64 a0_0) ∧ cw_ w' gb281 1 (.int .i64 a0_1) ∧ cw_ w' gb281 2 (.int .i64 a0_2) ∧ cw_ w' gb281 3 (.int .i64 a0_3) ∧ cw_ w' gb281 4 (.slice (some ad284) l0_4.length c0_4)) (ds := []) (bs 25 0) (by kernel_rfl) rfl rfl ⟨bt_ BK285 0, bt_ BK285 1, bt_ BK285 2, bt_ BK285 3, bt_ BK285 4, bt_ BK285 5, bt_ BK281 0, bt_ BK281 1, bt_ BK281 2, bt_ BK281 3, bt_ BK281 4⟩ (fun hHeld => ?_); refine with_tabW spec_FairOk.tab9 spec_FairOk.bits9 (fun HT_ HW_ => ?_)
              generalize wc.drew = w73 at BK281 BK285 HB hHeld ⊢
              refine ps_ 0 73 (bs 25 1) HT_ ?_
              refine ps_ 3 76 (bm 25 9) HT_ ?_
              refine ps_ 6 79 (bm 25 73) HT_ ?_
              refine tk_ 1 74 (bm 25 75) HT_ HW_ hHeld ?_
              refine tk_ 4 77 (bm 25 91) HT_ HW_ hHeld ?_
              refine tk_ 7 80 (bm 25 219) HT_ HW_ hHeld ?_
              refine on_ 2 (some 75) (bm 25 223) HT_ (fun K hK => ?_)
              refine gs_ Try.func40 #[.agg #[.int .i64 ((rd_T38 l0_4 x3_2).f3.f0), .int .i64 ((rd_T38 l0_4 x3_2).f3.f1), .int .i64 ((rd_T38 l0_4 x3_2).f3.f2)]] ?_
              with_reducible refine (spec_VecTop.calls ((rd_T38 l0_4 x3_2).f3.f0) ((rd_T38 l0_4 x3_2).f3.f1) ((rd_T38 l0_4 x3_2).f3.f2) t291 _ A57.out).mono ?_
              rintro e w74 ⟨rfl, hb⟩
              refine ⟨_, rfl, ?_⟩
              replace BK281 := bb_ BK281 hb; replace BK285 := bb_ BK285 hb; replace HB := Aside0.mk (below_step (bf_ HB) hb); (try clear hb); (try clear hb2); (try clear hk); (try clear hi)
              refine hK.out _ _ ⟨bt_ BK285 0, bt_ BK285 1, bt_ BK285 2, bt_ BK285 3, bt_ BK285 4, bt_ BK285 5, bt_ BK281 0, bt_ BK281 1, bt_ BK281 2, bt_ BK281 3, bt_ BK281 4⟩ (fun hHeld => ?_)
              clear hK K
              refine norm_ (a' := ?_) ?_ ?_
              rotate_left
              ·show Act.put _ (some 75) _ = _
               simp only [Act.put, ls0_, ls1_, ls2_, i64_w, i32_w]
               rfl
              refine on_ 5 (some 78) (bs 25 8) HT_ (fun K hK => ?_)
              refine gs_ Try.func40 #[.agg #[.int .i64 a0_1, .int .i64 a0_2, .int .i64 a0_3]] ?_
              with_reducible refine (spec_VecTop.calls a0_1 a0_2 a0_3 t292 _ A58.out).mono ?_
              rintro e w75 ⟨rfl, hb⟩
              refine ⟨_, rfl, ?_⟩
              replace BK281 := bb_ BK281 hb; replace BK285 := bb_ BK285 hb; replace HB := Aside0.mk (below_step (bf_ HB) hb); (try clear hb); (try clear hb2); (try clear hk); (try clear hi)
              refine hK.out _ _ ⟨bt_ BK285 0, bt_ BK285 1, bt_ BK285 2, bt_ BK285 3, bt_ BK285 4, bt_ BK285 5, bt_ BK281 0, bt_ BK281 1, bt_ BK281 2, bt_ BK281 3, bt_ BK281 4⟩ (fun hHeld => ?_)
              clear hK K
              refine norm_ (a' := ?_) ?_ ?_
              rotate_left
              ·show Act.put _ (some 78) _ = _
               simp only [Act.put, ls0_, ls1_, ls2_, i64_w, i32_w]
               rfl
              refine on_ 8 (some 81) (bs 25 9) HT_ (fun K hK => ?_)
              refine gs_ Try.func41 #[.int .i64 ((rd_T38 l0_4 x3_2).f1)] ?_
              with_reducible refine (spec_Stride.calls ((rd_T38 l0_4 x3_2).f1) t293 _ A59.out).mono ?_
              rintro e w' ⟨rfl, ⟨nd, rfl⟩⟩
              refine ⟨_, rfl, ?_⟩
              refine hK.out _ _ ⟨bt_ BK285 0, bt_ BK285 1, bt_ BK285 2, bt_ BK285 3, bt_ BK285 4, bt_ BK285 5, bt_ BK281 0, bt_ BK281 1, bt_ BK281 2, bt_ BK281 3, bt_ BK281 4⟩ (fun hHeld => ?_)
              clear hK K
              refine norm_ (a' := ?_) ?_ ?_
              rotate_left
              ·show Act.put _ (some 81) _ = _
               simp only [Act.put, ls0_, ls1_, ls2_, i64_w, i32_w]
               rfl
              refine ps_ 9 82 (bs 25 10) HT_ ?_
              refine ps_ 10 83 (bs 25 11) HT_ ?_
              refine ps_ 11 84 (bs 25 12) HT_ ?_
              refine ps_ 12 85 (bs 25 13) HT_ ?_
              refine ps_ 13 86 (bs 25 14) HT_ ?_
              refine tk_ 14 87 (bs 25 15) HT_ HW_ hHeld ?_
              refine ps_ 15 88 (bs 25 16) HT_ ?_
              refine ps_ 16 89 (bs 25 17) HT_ ?_
              refine ps_ 19 92 (bm 25 655359) HT_ ?_
              refine tk_ 17 90 (bm 25 786431) HT_ HW_ hHeld ?_
              refine tk_ 20 93 (bm 25 1835007) HT_ HW_ hHeld ?_
              refine on_ 18 (some 91) (bs 25 21) HT_ (fun K hK => ?_)
              refine gs_ Try.func40 #[.agg #[.int .i64 ((rd_T38 l0_4 x3_2).f3.f0), .int .i64 ((rd_T38 l0_4 x3_2).f3.f1), .int .i64 ((rd_T38 l0_4 x3_2).f3.f2)]] ?_
              with_reducible refine (spec_VecTop.calls ((rd_T38 l0_4 x3_2).f3.f0) ((rd_T38 l0_4 x3_2).f3.f1) ((rd_T38 l0_4 x3_2).f3.f2) t294 _ A65.out).mono ?_
              rintro e w76 ⟨rfl, hb⟩
              refine ⟨_, rfl, ?_⟩
              replace BK281 := bb_ BK281 hb; replace BK285 := bb_ BK285 hb; replace HB := Aside0.mk (below_step (bf_ HB) hb); (try clear hb); (try clear hb2); (try clear hk); (try clear hi)
              refine hK.out _ _ ⟨bt_ BK285 0, bt_ BK285 1, bt_ BK285 2, bt_ BK285 3, bt_ BK285 4, bt_ BK285 5, bt_ BK281 0, bt_ BK281 1, bt_ BK281 2, bt_ BK281 3, bt_ BK281 4⟩ (fun hHeld => ?_)
              clear hK K
              refine norm_ (a' := ?_) ?_ ?_
              rotate_left
              ·show Act.put _ (some 91) _ = _
               simp only [Act.put, ls0_, ls1_, ls2_, i64_w, i32_w]
               rfl
              refine on_ 21 (some 94) (bs 25 22) HT_ (fun K hK => ?_)
              refine gs_ Try.func40 #[.agg #[.int .i64 a0_1, .int .i64 a0_2, .int .i64 a0_3]] ?_
              with_reducible refine (spec_VecTop.calls a0_1 a0_2 a0_3 t295 _ A66.out).mono ?_
              rintro e w77 ⟨rfl, hb⟩
              refine ⟨_, rfl, ?_⟩
              replace BK281 := bb_ BK281 hb; replace BK285 := bb_ BK285 hb; replace HB := Aside0.mk (below_step (bf_ HB) hb); (try clear hb); (try clear hb2); (try clear hk); (try clear hi)
              refine hK.out _ _ ⟨bt_ BK285 0, bt_ BK285 1, bt_ BK285 2, bt_ BK285 3, bt_ BK285 4, bt_ BK285 5, bt_ BK281 0, bt_ BK281 1, bt_ BK281 2, bt_ BK281 3, bt_ BK281 4⟩ (fun hHeld => ?_)
              clear hK K
              refine norm_ (a' := ?_) ?_ ?_
              rotate_left
              ·show Act.put _ (some 94) _ = _
               simp only [Act.put, ls0_, ls1_, ls2_, i64_w, i32_w]
               rfl
              refine ps_ 22 95 (bs 25 23) HT_ ?_
              refine ps_ 23 96 (bs 25 24) HT_ ?_
              refine ps_ 24 97 (bs 25 25) HT_ ?_
              refine done_ (done_of HT_.out (by kernel_rfl)) ?_
              try go_wp2
              go_roundg kj21
              case measure => have := HJ1.out; have := HK2.out; have := HJ21.out; omega
              case rel => exact ⟨(wrap64 (x3_2 + 1)), (by first | rfl | (simp; done) | (simp [*]; done)), H', ⟨by have := HJ1.out; have := HK2.out; have := HJ21.out; omega⟩, ⟨bk_ BK281⟩, ⟨bf_ HB⟩⟩
            ·rw [if_neg c64] at H
             have c64b0 : ((rd_T38 l0_4 x3_2).f2) = false := by simpa using c64
             clear c64
             have H' := Aside0.mk H
             clear H
             try go_wp2
             replace BK281 := Aside0.mk (blk_drew BK281.out); replace BK285 := Aside0.mk (blk_drew BK285.out); replace HB := Aside0.mk (below_drew1 HB.out)
             refine start_ (n := 25) (S := fun w' => cw_ w' gb285 0 (.int .i64 ((rd_T38 l0_4 x3_2).f0)) ∧ cw_ w' gb285 1 (.int .i64 ((rd_T38 l0_4 x3_2).f1)) ∧ cw_ w' gb285 2 (.bool ((rd_T38 l0_4 x3_2).f2)) ∧ cw_ w' gb285 3 (.int .i64 ((rd_T38 l0_4 x3_2).f3.f0)) ∧ cw_ w' gb285 4 (.int .i64 ((rd_T38 l0_4 x3_2).f3.f1)) ∧ cw_ w' gb285 5 (.int .i64 ((rd_T38 l0_4 x3_2).f3.f2)) ∧ cw_ w' gb281 0 (.int .i64 a0_0) ∧ cw_ w' gb281 1 (.int .i64 a0_1) ∧ cw_ w' gb281 2 (.int .i64 a0_2) ∧ cw_ w' gb281 3 (.int .i64 a0_3) ∧ cw_ w' gb281 4 (.slice (some ad284) l0_4.length c0_4)) (ds := []) (bs 25 0) (by kernel_rfl) rfl rfl ⟨bt_ BK285 0, bt_ BK285 1, bt_ BK285 2, bt_ BK285 3, bt_ BK285 4, bt_ BK285 5, bt_ BK281 0, bt_ BK281 1, bt_ BK281 2, bt_ BK281 3, bt_ BK281 4⟩ (fun hHeld => ?_); refine with_tabW spec_FairOk.tab9 spec_FairOk.bits9 (fun HT_ HW_ => ?_)
             generalize wc.drew = w78 at BK281 BK285 HB hHeld ⊢
             refine ps_ 0 73 (bs 25 1) HT_ ?_
             refine ps_ 3 76 (bm 25 9) HT_ ?_
             refine ps_ 6 79 (bm 25 73) HT_ ?_
             refine tk_ 1 74 (bm 25 75) HT_ HW_ hHeld ?_
             refine tk_ 4 77 (bm 25 91) HT_ HW_ hHeld ?_
             refine tk_ 7 80 (bm 25 219) HT_ HW_ hHeld ?_
             refine on_ 2 (some 75) (bm 25 223) HT_ (fun K hK => ?_)
             refine gs_ Try.func40 #[.agg #[.int .i64 ((rd_T38 l0_4 x3_2).f3.f0), .int .i64 ((rd_T38 l0_4 x3_2).f3.f1), .int .i64 ((rd_T38 l0_4 x3_2).f3.f2)]] ?_
             with_reducible refine (spec_VecTop.calls ((rd_T38 l0_4 x3_2).f3.f0) ((rd_T38 l0_4 x3_2).f3.f1) ((rd_T38 l0_4 x3_2).f3.f2) t291 _ A57.out).mono ?_
             rintro e w79 ⟨rfl, hb⟩
             refine ⟨_, rfl, ?_⟩
             replace BK281 := bb_ BK281 hb; replace BK285 := bb_ BK285 hb; replace HB := Aside0.mk (below_step (bf_ HB) hb); (try clear hb); (try clear hb2); (try clear hk); (try clear hi)
             refine hK.out _ _ ⟨bt_ BK285 0, bt_ BK285 1, bt_ BK285 2, bt_ BK285 3, bt_ BK285 4, bt_ BK285 5, bt_ BK281 0, bt_ BK281 1, bt_ BK281 2, bt_ BK281 3, bt_ BK281 4⟩ (fun hHeld => ?_)
             clear hK K
             refine norm_ (a' := ?_) ?_ ?_
             rotate_left
             ·show Act.put _ (some 75) _ = _
              simp only [Act.put, ls0_, ls1_, ls2_, i64_w, i32_w]
              rfl
             refine on_ 5 (some 78) (bs 25 8) HT_ (fun K hK => ?_)
             refine gs_ Try.func40 #[.agg #[.int .i64 a0_1, .int .i64 a0_2, .int .i64 a0_3]] ?_
             with_reducible refine (spec_VecTop.calls a0_1 a0_2 a0_3 t292 _ A58.out).mono ?_
             rintro e w80 ⟨rfl, hb⟩
             refine ⟨_, rfl, ?_⟩
             replace BK281 := bb_ BK281 hb; replace BK285 := bb_ BK285 hb; replace HB := Aside0.mk (below_step (bf_ HB) hb); (try clear hb); (try clear hb2); (try clear hk); (try clear hi)
             refine hK.out _ _ ⟨bt_ BK285 0, bt_ BK285 1, bt_ BK285 2, bt_ BK285 3, bt_ BK285 4, bt_ BK285 5, bt_ BK281 0, bt_ BK281 1, bt_ BK281 2, bt_ BK281 3, bt_ BK281 4⟩ (fun hHeld => ?_)
             clear hK K
             refine norm_ (a' := ?_) ?_ ?_
             rotate_left
             ·show Act.put _ (some 78) _ = _
              simp only [Act.put, ls0_, ls1_, ls2_, i64_w, i32_w]
              rfl
             refine on_ 8 (some 81) (bs 25 9) HT_ (fun K hK => ?_)
             refine gs_ Try.func41 #[.int .i64 ((rd_T38 l0_4 x3_2).f1)] ?_
             with_reducible refine (spec_Stride.calls ((rd_T38 l0_4 x3_2).f1) t293 _ A59.out).mono ?_
             rintro e w' ⟨rfl, ⟨nd, rfl⟩⟩
             refine ⟨_, rfl, ?_⟩
             refine hK.out _ _ ⟨bt_ BK285 0, bt_ BK285 1, bt_ BK285 2, bt_ BK285 3, bt_ BK285 4, bt_ BK285 5, bt_ BK281 0, bt_ BK281 1, bt_ BK281 2, bt_ BK281 3, bt_ BK281 4⟩ (fun hHeld => ?_)
             clear hK K
             refine norm_ (a' := ?_) ?_ ?_
             rotate_left
             ·show Act.put _ (some 81) _ = _
              simp only [Act.put, ls0_, ls1_, ls2_, i64_w, i32_w]
              rfl
             refine ps_ 9 82 (bs 25 10) HT_ ?_
             refine ps_ 10 83 (bs 25 11) HT_ ?_
             refine ps_ 11 84 (bs 25 12) HT_ ?_
             refine ps_ 12 85 (bs 25 13) HT_ ?_
             refine ps_ 13 86 (bs 25 14) HT_ ?_
             refine tk_ 14 87 (bs 25 15) HT_ HW_ hHeld ?_
             refine ps_ 15 88 (bs 25 16) HT_ ?_
             refine pu_ 16 89 (bs 25 17) HT_ ?_
             refine pu_ 17 90 (bs 25 18) HT_ ?_
             refine pu_ 18 91 (bs 25 19) HT_ ?_
             refine pu_ 19 92 (bs 25 20) HT_ ?_
             refine pu_ 20 93 (bs 25 21) HT_ ?_
             refine pu_ 21 94 (bs 25 22) HT_ ?_
             refine pu_ 22 95 (bs 25 23) HT_ ?_
             refine ps_ 23 96 (bs 25 24) HT_ ?_
             refine ps_ 24 97 (bs 25 25) HT_ ?_
             refine done_ (done_of HT_.out (by kernel_rfl)) ?_
             try go_wp2
             go_roundg kj21
             case measure => have := HJ1.out; have := HK2.out; have := HJ21.out; omega
             case rel => exact ⟨(wrap64 (x3_2 + 1)), (by first | rfl | (simp; done) | (simp [*]; done)), H', ⟨by have := HJ1.out; have := HK2.out; have := HJ21.out; omega⟩, ⟨bk_ BK281⟩, ⟨bf_ HB⟩⟩
       ·rw [if_neg c21] at H
        exact absurd H (by simp)
      ·rw [if_neg c20] at H
       have c20b0 : decide (x3_2 < (l0_4.length : Int)) = false := decide_eq_false c20
       clear c20
       obtain rfl := Option.some.inj H
       obtain ⟨hcz81_0, hcz81_1, hcz81_2, hcz81_3, hcz81_4, hfz81_0, hfz81_1, hfz81_2, hfz81_3, hfz81_4⟩ := bz5_ BK281
       go_wp2
       go_ret
       exact ⟨by first | rfl | (simp [errW_none, errW_some] <;> rfl) | (simp [*, errW_none, errW_some] <;> rfl), bf_ HB⟩

end Go.Proofs.Ytljhaoiopokmfaa.PFnExactFairServe
