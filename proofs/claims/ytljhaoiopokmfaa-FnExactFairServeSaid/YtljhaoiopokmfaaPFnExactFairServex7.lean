-- printed by a program of this session (wip/printx) out of the translation; Lean checks it
import Derived.Test.YtljhaoiopokmfaaVFnExactFairServe
import Derived.Test.YtljhaoiopokmfaaPFnExactFairServex0
import Derived.Test.YtljhaoiopokmfaaPFnExactFairServex2
import Derived.Test.YtljhaoiopokmfaaPFnExactFairServex4
import Derived.Test.YtljhaoiopokmfaaPFnExactFairServex5
import Derived.Test.YtljhaoiopokmfaaPFnExactFairServex6
namespace Go.Proofs.Ytljhaoiopokmfaa.PFnExactFairServe
open Go.RowKit Go.Proofs.YtljhaoiopokmfaaW.PrintWords Go.Proofs.YtljhaoiopokmfaaW.PrintLast Go.Proofs.YtljhaoiopokmfaaW.PrintMore
attribute [local go_sem] max2_int min2_int max_two min_two max_three min_three max_four min_four   -- for this text's walks alone
set_option linter.unusedVariables false
set_option linter.unusedSimpArgs false

/-! ### impl_FairServe: function 42 -/
def impl_FairServe.j0 : Nat → Bool → Bool → Int → Int → Int → Int → List (S38) → Int → Int → Int → Option (Int × Int × Int × Int × (List (S38)) × Int)
  | 0, _, _, _, _, _, _, _, _, _, _ => none
  | k + 1, x2, x20, x243000, x243001, x243002, x243003, x243004, x244000, x244001, x244002 => if x20 = true then (some (0, 0, 0, 0, ([] : List (S38)), 1)) else ((impl_Fair_pick.f k x243000 x243001 x243002 x243003 x243004).bind fun t247 => (if t247 < 0 then (some (0, 0, 0, 0, ([] : List (S38)), 4)) else ((impl_copyFair.f x243000 x243001 x243002 x243003 x243004).bind fun bt248 => (if 0 ≤ t247 then (if t247 < (bt248.2.2.2.2.length : Int) then ((impl_VecMost.f x243001 x243002 x243003 ((rd_T38 bt248.2.2.2.2 t247).f3.f0) ((rd_T38 bt248.2.2.2.2 t247).f3.f1) ((rd_T38 bt248.2.2.2.2 t247).f3.f2)).bind fun bt257 => ((impl_VecTop.f bt257.1 bt257.2.1 bt257.2.2).bind fun t260 => (if t260 > 100000000000 then (some (0, 0, 0, 0, ([] : List (S38)), 7)) else ((impl_Finish.f k ((rd_T38 bt248.2.2.2.2 t247).f3.f0) ((rd_T38 bt248.2.2.2.2 t247).f3.f1) ((rd_T38 bt248.2.2.2.2 t247).f3.f2) x244000 x244001 x244002 ((rd_T38 bt248.2.2.2.2 t247).f1)).bind fun bt263 => ((impl_Dovetail.f bt263.1 bt263.2.1 bt263.2.2.1 x243000).bind fun bt268 => ((some (bt248.2.2.2.2.set (t247 : Int).toNat (⟨(rd_T38 bt248.2.2.2.2 t247).f0, (rd_T38 bt248.2.2.2.2 t247).f1, (rd_T38 bt248.2.2.2.2 t247).f2, (⟨bt268.1, bt268.2.1, bt268.2.2⟩ : S29)⟩ : S38) : List (S38))).bind fun y271 => (some (bt248.1, bt257.1, bt257.2.1, bt257.2.2, (y271.set (t247 : Int).toNat (⟨(rd_T38 y271 t247).f0, (rd_T38 y271 t247).f1, x2, (⟨(rd_T38 y271 t247).f3.f0, (rd_T38 y271 t247).f3.f1, (rd_T38 y271 t247).f3.f2⟩ : S29)⟩ : S38)), 0)))))))) else (none)) else (none)))))
def impl_FairServe.f (k : Nat) (a0_0 : Int) (a0_1 : Int) (a0_2 : Int) (a0_3 : Int) (l0_4 : List (S38)) (a1_0 : Int) (a1_1 : Int) (a1_2 : Int) (a2 : Bool) : Option (Int × Int × Int × Int × (List (S38)) × Int) := (impl_FairOk.f k a0_0 a0_1 a0_2 a0_3 l0_4).bind fun t245 => (if t245 = true then ((impl_ChargeOk.f a1_0 a1_1 a1_2).bind fun t246 => (impl_FairServe.j0 k a2 (!t246) a0_0 a0_1 a0_2 a0_3 l0_4 a1_0 a1_1 a1_2)) else (impl_FairServe.j0 k a2 true a0_0 a0_1 a0_2 a0_3 l0_4 a1_0 a1_1 a1_2))
theorem impl_FairServe.mono_l : ∀ k, (∀ y0 y1 y2 y3 y4 y5 y6 y7 y8 y9, LeO (impl_FairServe.j0 k y0 y1 y2 y3 y4 y5 y6 y7 y8 y9) (impl_FairServe.j0 (k + 1) y0 y1 y2 y3 y4 y5 y6 y7 y8 y9))
 | 0 => fun _ _ _ _ _ _ _ _ _ _ r h => by simp [impl_FairServe.j0] at h
 | k + 1 => by
  have ih0 := impl_FairServe.mono_l k
  ·intro y0 y1 y2 y3 y4 y5 y6 y7 y8 y9
   unfold impl_FairServe.j0
   repeat' first
   | (with_reducible exact ih0 _ _ _ _ _ _ _ _ _ _)
   | (with_reducible exact impl_FairOk.mono _ _ _ _ _ _)
   | (with_reducible exact impl_Fair_pick.mono _ _ _ _ _ _)
   | (with_reducible exact impl_Finish.mono _ _ _ _ _ _ _ _)
   | (with_reducible exact LeO.refl _)
   | (with_reducible exact LeO.none _)
   | (with_reducible refine LeO.ite ?_ ?_)
   | (with_reducible refine LeO.bind ?_ (fun _ => ?_))
   | exact ih0 _ _ _ _ _ _ _ _ _ _
   | exact impl_FairOk.mono _ _ _ _ _ _
   | exact impl_Fair_pick.mono _ _ _ _ _ _
   | exact impl_Finish.mono _ _ _ _ _ _ _ _
   | exact LeO.none _
   | refine LeO.ite ?_ ?_
   | refine LeO.bind ?_ (fun _ => ?_)
theorem impl_FairServe.mono : ∀ a0 a1 a2 a3 a4 a5 a6 a7 a8 k, LeO (impl_FairServe.f k a0 a1 a2 a3 a4 a5 a6 a7 a8) (impl_FairServe.f (k + 1) a0 a1 a2 a3 a4 a5 a6 a7 a8) := by
 intro a0 a1 a2 a3 a4 a5 a6 a7 a8 k
 have ih0 := impl_FairServe.mono_l k
 unfold impl_FairServe.f
 repeat' first
   | (with_reducible exact ih0 _ _ _ _ _ _ _ _ _ _)
   | (with_reducible exact impl_FairOk.mono _ _ _ _ _ _)
   | (with_reducible exact impl_Fair_pick.mono _ _ _ _ _ _)
   | (with_reducible exact impl_Finish.mono _ _ _ _ _ _ _ _)
   | (with_reducible exact LeO.refl _)
   | (with_reducible exact LeO.none _)
   | (with_reducible refine LeO.ite ?_ ?_)
   | (with_reducible refine LeO.bind ?_ (fun _ => ?_))
   | exact ih0 _ _ _ _ _ _ _ _ _ _
   | exact impl_FairOk.mono _ _ _ _ _ _
   | exact impl_Fair_pick.mono _ _ _ _ _ _
   | exact impl_Finish.mono _ _ _ _ _ _ _ _
   | exact LeO.none _
   | refine LeO.ite ?_ ?_
   | refine LeO.bind ?_ (fun _ => ?_)
def impl_FairServe.T8 : Bool × List (List Nat × List Nat) := (true, [([], []), ([0], [0]), ([], []), ([2], [2]), ([3], [3]), ([4], [4]), ([1, 5], [1, 5]), ([0, 1, 2, 3, 4, 5, 6], []), ([7, 6, 6, 0, 1, 2, 3, 4, 5, 6], [6, 7])])
def impl_FairServe.B8 : List Nat := [0, 1, 0, 4, 12, 28, 63, 127, 255]
theorem impl_FairServe.tab8 : rtab .any (opsOf Try.f42 8) = impl_FairServe.T8 := by kernel_rfl
theorem impl_FairServe.bits8 : waitsOk impl_FairServe.T8.2 impl_FairServe.B8 = true := by kernel_rfl
def impl_FairServe.T11 : Bool × List (List Nat × List Nat) := (true, [([], []), ([0], [0]), ([1], [1]), ([2], [2]), ([], []), ([], []), ([5], [5]), ([6], [6]), ([7], [7]), ([3, 4, 8], [3, 4, 8]), ([9], [9]), ([10], [10]), ([10], [10]), ([], []), ([13, 11, 9, 0, 1, 2, 3, 4, 5, 6, 7, 8, 9, 10, 11, 13], [11, 13]), ([12, 14, 0, 1, 2, 3, 4, 5, 6, 7, 8, 9, 10, 11, 12, 13, 14], [12])])
def impl_FairServe.B11 : List Nat := [0, 1, 3, 7, 0, 0, 32, 96, 224, 511, 1023, 2047, 2047, 0, 12287, 32767]
theorem impl_FairServe.tab11 : rtab .any (opsOf Try.f42 11) = impl_FairServe.T11 := by kernel_rfl
theorem impl_FairServe.bits11 : waitsOk impl_FairServe.T11.2 impl_FairServe.B11 = true := by kernel_rfl
set_option maxHeartbeats 8000000 in
set_option maxRecDepth 100000 in
theorem impl_FairServe.calls (k : Nat) (a0_0 : Int) (a0_1 : Int) (a0_2 : Int) (a0_3 : Int) (A0_4 : Option Addr) (c0_4 : Nat) (l0_4 : List (S38)) (a1_0 : Int) (a1_1 : Int) (a1_2 : Int) (a2 : Bool) (r1 : Int) (r2 : Int) (r3 : Int) (r4 : Int) (r5 : List (S38)) (r6 : Int) (w : World) (hr0_4 : Kd.C k38 w A0_4 l0_4.length l0_4) (hc0_4 : l0_4.length ≤ c0_4) (h : impl_FairServe.f k a0_0 a0_1 a0_2 a0_3 l0_4 a1_0 a1_1 a1_2 a2 = some (r1, r2, r3, r4, r5, r6)) :
  Calls Try.prog 42 #[.agg #[.int .i64 a0_0, .int .i64 a0_1, .int .i64 a0_2, .int .i64 a0_3, .slice A0_4 l0_4.length c0_4], .agg #[.int .i64 a1_0, .int .i64 a1_1, .int .i64 a1_2], .bool a2] w fun e w' => ∃ v4_ : Value, e = .returned (.tuple #[.agg #[.int .i64 r1, .int .i64 r2, .int .i64 r3, .int .i64 r4, v4_], .int .i64 r6]) ∧ Kd.R k38 38 w' w.heap.size (fun _ => True) v4_ r5 ∧ Below w.heap.size w w' := by
 have hu32 := Try.underlying32; have hu29 := Try.underlying29
 have HR0_4 := Aside0.mk hr0_4
 have HC0_4 := Aside0.mk hc0_4
 clear hr0_4 hc0_4; have HB := Aside0.mk (Below.refl w.heap.size w)
 have H : ((impl_FairOk.f k a0_0 a0_1 a0_2 a0_3 l0_4).bind fun t245 => (if t245 = true then ((impl_ChargeOk.f a1_0 a1_1 a1_2).bind fun t246 => (impl_FairServe.j0 k a2 (!t246) a0_0 a0_1 a0_2 a0_3 l0_4 a1_0 a1_1 a1_2)) else (impl_FairServe.j0 k a2 true a0_0 a0_1 a0_2 a0_3 l0_4 a1_0 a1_1 a1_2))) = some (r1, r2, r3, r4, r5, r6) := h
 clear h
 have HC4 := Aside0.mk H
 clear H
 go_enter Try.func42, Try.ntmps42
 go_upto_region 1 with (first | ((with_reducible refine gd_ 3 rfl ?_); refine bv_ 3 #[.int .i64 a0_0, .int .i64 a0_1, .int .i64 a0_2, .int .i64 a0_3, .slice A0_4 l0_4.length c0_4] 32 ?_; intro gb242 hg w5 hbox hb; have BK242 := Aside0.mk (hbox); have GW242 := gw_ HB hg; have GE242 := gw_ HB hg; replace HB := Aside0.mk (below_step (be_ HB) hb); clear hb hbox hg) | ((with_reducible refine gd_ 4 rfl ?_); refine bv_ 4 #[.int .i64 a1_0, .int .i64 a1_1, .int .i64 a1_2] 29 ?_; intro gb243 hg w6 hbox hb; have BK243 := Aside0.mk (hbox); have GW243 := gw_ HB hg; have GE243 := gw_ HB hg; replace HB := Aside0.mk (below_step (bf_ HB) hb); have NB242_243 := nl_ BK242 hg; have NB243_242 := ng_ BK242 hg; replace BK242 := bb_ BK242 hb; clear hb hbox hg) | ((with_reducible refine gd_ 6 rfl ?_); refine bv_ 6 #[.int .i64 0, .int .i64 0, .int .i64 0, .int .i64 0, .slice none 0 0] 32 ?_; intro gb244 hg w7 hbox hb; have BK244 := Aside0.mk (hbox); have GW244 := gw_ HB hg; have GE244 := gw_ HB hg; replace HB := Aside0.mk (below_step (bf_ HB) hb); have NB242_244 := nl_ BK242 hg; have NB244_242 := ng_ BK242 hg; replace BK242 := bb_ BK242 hb; have NB243_244 := nl_ BK243 hg; have NB244_243 := ng_ BK243 hg; replace BK243 := bb_ BK243 hb; clear hb hbox hg))
 (try simp only [Act.put, ls0_, ls1_, ls2_])
 go_cut [20] (fun v20 wc => ∃ (kq : Nat) (x20_3 : Bool), v20 = .bool x20_3 ∧ Aside0 (impl_FairServe.j0 kq a2 x20_3 a0_0 a0_1 a0_2 a0_3 l0_4 a1_0 a1_1 a1_2 = some (r1, r2, r3, r4, r5, r6)) ∧ Aside0 (kq ≤ k) ∧ Aside0 (wc.heap[gb242]? = some (.cells #[.int .i64 a0_0, .int .i64 a0_1, .int .i64 a0_2, .int .i64 a0_3, (.slice A0_4 l0_4.length c0_4)] 32 (0, 0))) ∧ Aside0 (wc.heap[gb243]? = some (.cells #[.int .i64 a1_0, .int .i64 a1_1, .int .i64 a1_2] 29 (0, 0))) ∧ Aside0 (wc.heap[gb244]? = some (.cells #[.int .i64 0, .int .i64 0, .int .i64 0, .int .i64 0, (.slice none 0 0)] 32 (0, 0))) ∧ Aside0 (Below w.heap.size w wc))
 case first =>
  have H := HC4.out
  clear HC4
  replace H := Option.bind_eq_some_iff.mp H
  obtain ⟨t245, A80, H⟩ := H
  replace H : (if t245 = true then ((impl_ChargeOk.f a1_0 a1_1 a1_2).bind fun t246 => (impl_FairServe.j0 k a2 (!t246) a0_0 a0_1 a0_2 a0_3 l0_4 a1_0 a1_1 a1_2)) else (impl_FairServe.j0 k a2 true a0_0 a0_1 a0_2 a0_3 l0_4 a1_0 a1_1 a1_2)) = some (r1, r2, r3, r4, r5, r6) := H
  have A8 := Aside0.mk A80
  clear A80
  by_cases c9 : t245 = true
  ·subst c9
   have H1 : ((impl_ChargeOk.f a1_0 a1_1 a1_2).bind fun t246 => (impl_FairServe.j0 k a2 (!t246) a0_0 a0_1 a0_2 a0_3 l0_4 a1_0 a1_1 a1_2)) = some (r1, r2, r3, r4, r5, r6) := by rw [if_pos rfl] at H; exact H
   clear H
   have H := H1
   clear H1
   replace H := Option.bind_eq_some_iff.mp H
   obtain ⟨t246, A100, H⟩ := H
   replace H : (impl_FairServe.j0 k a2 (!t246) a0_0 a0_1 a0_2 a0_3 l0_4 a1_0 a1_1 a1_2) = some (r1, r2, r3, r4, r5, r6) := H
   have A10 := Aside0.mk A100
   clear A100
   have H' := Aside0.mk H
   clear H; have hnb11 := NB242_243.out; have hnc11 := NB243_242.out; have hnb12 := NB242_244.out; have hnc12 := NB244_242.out; obtain ⟨hcz13_0, hcz13_1, hcz13_2, hcz13_3, hcz13_4, hfz13_0, hfz13_1, hfz13_2, hfz13_3, hfz13_4⟩ := bz5_ BK242
   go_wp2_with (first | ((with_reducible refine gc_ 18 rfl ?_); refine gl_ 14 Try.func18 #[.agg #[.int .i64 a0_0, .int .i64 a0_1, .int .i64 a0_2, .int .i64 a0_3, .slice A0_4 l0_4.length c0_4]] ?_; (with_reducible refine (impl_FairOk.calls k a0_0 a0_1 a0_2 a0_3 _ _ l0_4 true _ ?side1 ?side2 A8.out).mono ?_); (case side1 => repeat (first | exact (Kd.C_below HR0_4.out HB.out) | (with_reducible refine Kd.C_alloc ?_ _) | (with_reducible refine Kd.C_drewN ?_ _) | (with_reducible refine Kd.C_drew ?_))); (case side2 => exact HC0_4.out); rintro e w14 ⟨rfl, hb⟩; refine ⟨_, rfl, ?_⟩; replace BK242 := bb_ BK242 hb; replace BK243 := bb_ BK243 hb; replace BK244 := bb_ BK244 hb; replace HB := Aside0.mk (below_step (bf_ HB) hb); (try clear hb); (try clear hb2); (try clear hk); (try clear hi); have hnb15 := NB243_244.out; have hnc15 := NB244_243.out; obtain ⟨hcz16_0, hcz16_1, hcz16_2, hfz16_0, hfz16_1, hfz16_2⟩ := bz3_ BK243) | (go_at_call 74; (with_reducible refine (impl_ChargeOk.calls a1_0 a1_1 a1_2 t246 _ A10.out).mono ?_); rintro e w17 ⟨rfl, hb⟩; replace BK242 := bb_ BK242 hb; replace BK243 := bb_ BK243 hb; replace BK244 := bb_ BK244 hb; replace HB := Aside0.mk (below_step (bf_ HB) hb); (try clear hb); (try clear hb2); (try clear hk); (try clear hi)))
   go_meet
   case rel => exact ⟨_, (!t246), (by first | rfl | (simp; done) | (simp [*]; done)), H', ⟨by first | omega | exact Nat.le_refl _⟩, ⟨bk_ BK242⟩, ⟨bk_ BK243⟩, ⟨bk_ BK244⟩, ⟨bf_ HB⟩⟩
  ·replace c9 := Bool.eq_false_iff.mpr c9
   subst c9
   have H1 : (impl_FairServe.j0 k a2 true a0_0 a0_1 a0_2 a0_3 l0_4 a1_0 a1_1 a1_2) = some (r1, r2, r3, r4, r5, r6) := by rw [if_neg (show ¬ (false = true) by decide)] at H; exact H
   clear H
   have H := H1
   clear H1
   have H' := Aside0.mk H
   clear H; have hnb18 := NB242_243.out; have hnc18 := NB243_242.out; have hnb19 := NB242_244.out; have hnc19 := NB244_242.out; obtain ⟨hcz20_0, hcz20_1, hcz20_2, hcz20_3, hcz20_4, hfz20_0, hfz20_1, hfz20_2, hfz20_3, hfz20_4⟩ := bz5_ BK242
   go_wp2_with (first | ((with_reducible refine gc_ 18 rfl ?_); refine gl_ 14 Try.func18 #[.agg #[.int .i64 a0_0, .int .i64 a0_1, .int .i64 a0_2, .int .i64 a0_3, .slice A0_4 l0_4.length c0_4]] ?_; (with_reducible refine (impl_FairOk.calls k a0_0 a0_1 a0_2 a0_3 _ _ l0_4 false _ ?side1 ?side2 A8.out).mono ?_); (case side1 => repeat (first | exact (Kd.C_below HR0_4.out HB.out) | (with_reducible refine Kd.C_alloc ?_ _) | (with_reducible refine Kd.C_drewN ?_ _) | (with_reducible refine Kd.C_drew ?_))); (case side2 => exact HC0_4.out); rintro e w21 ⟨rfl, hb⟩; refine ⟨_, rfl, ?_⟩; replace BK242 := bb_ BK242 hb; replace BK243 := bb_ BK243 hb; replace BK244 := bb_ BK244 hb; replace HB := Aside0.mk (below_step (bf_ HB) hb); (try clear hb); (try clear hb2); (try clear hk); (try clear hi)))
   go_meet
   case rel => exact ⟨_, (true), (by first | rfl | (simp; done) | (simp [*]; done)), H', ⟨by first | omega | exact Nat.le_refl _⟩, ⟨bk_ BK242⟩, ⟨bk_ BK243⟩, ⟨bk_ BK244⟩, ⟨bf_ HB⟩⟩
 case rest =>
  clear HC4; (try clear c1); (try clear p2); (try clear c4); (try clear c9); (try clear c11); (try clear c12); (try clear c15); (try clear c18); (try clear c19); (try clear hcz13_0 hcz13_1 hcz13_2 hcz13_3 hcz13_4 hfz13_0 hfz13_1 hfz13_2 hfz13_3 hfz13_4); (try clear hcz16_0 hcz16_1 hcz16_2 hfz16_0 hfz16_1 hfz16_2); (try clear hcz20_0 hcz20_1 hcz20_2 hcz20_3 hcz20_4 hfz20_0 hfz20_1 hfz20_2 hfz20_3 hfz20_4)
  obtain ⟨kq, x20_3, rfl, HA, HJ3, BK242, BK243, BK244, HB⟩ := hcut
  cases kq with
  | zero => exact absurd HA.out (by simp [impl_FairServe.j0])
  | succ kj3 =>
   have H := HA.out
   clear HA
   simp only [impl_FairServe.j0] at H
   by_cases c22 : x20_3 = true
   ·subst c22
    have H1 : (some (0, 0, 0, 0, ([] : List (S38)), 1)) = some (r1, r2, r3, r4, r5, r6) := by rw [if_pos rfl] at H; exact H
    clear H
    have H := H1
    clear H1
    simp only [Option.some.injEq, Prod.mk.injEq] at H
    obtain ⟨rfl, rfl, rfl, rfl, rfl, rfl⟩ := H
    have hnb23 := NB244_242.out; have hnc23 := NB242_244.out; have hnb24 := NB244_243.out; have hnc24 := NB243_244.out; obtain ⟨hcz25_0, hcz25_1, hcz25_2, hcz25_3, hcz25_4, hfz25_0, hfz25_1, hfz25_2, hfz25_3, hfz25_4⟩ := bz5_ BK244
    go_wp2
    refine bodyPost_ret (results_ct rfl _ _ gb244 32 #[.int .i64 0, .int .i64 0, .int .i64 0, .int .i64 0, .slice none 0 0] (0, 0) _ rfl (by (with_reducible repeat (first | refine blk_drewN ?_ _ | refine blk_drew ?_ | refine blk_alloc ?_ _)); refine blk_put (cs := #[.int .i64 0, .int .i64 0, .int .i64 0, .int .i64 0, .slice none 0 0]) ?_ 4 _ rfl; (with_reducible repeat (first | refine blk_drewN ?_ _ | refine blk_drew ?_ | refine blk_alloc ?_ _)); refine blk_put (cs := #[.int .i64 0, .int .i64 0, .int .i64 0, .int .i64 0, .slice none 0 0]) ?_ 3 _ rfl; (with_reducible repeat (first | refine blk_drewN ?_ _ | refine blk_drew ?_ | refine blk_alloc ?_ _)); refine blk_put (cs := #[.int .i64 0, .int .i64 0, .int .i64 0, .int .i64 0, .slice none 0 0]) ?_ 2 _ rfl; (with_reducible repeat (first | refine blk_drewN ?_ _ | refine blk_drew ?_ | refine blk_alloc ?_ _)); refine blk_put (cs := #[.int .i64 0, .int .i64 0, .int .i64 0, .int .i64 0, .slice none 0 0]) ?_ 1 _ rfl; (with_reducible repeat (first | refine blk_drewN ?_ _ | refine blk_drew ?_ | refine blk_alloc ?_ _)); refine blk_put (cs := #[.int .i64 0, .int .i64 0, .int .i64 0, .int .i64 0, .slice none 0 0]) ?_ 0 _ rfl; exact bk_ BK244) Try.underlying32 rfl (by kernel_rfl)) rfl ?_
    exact ⟨_, by first | rfl | (simp [errW_none, errW_some] <;> rfl) | (simp [*, errW_none, errW_some] <;> rfl), by first | exact Kd.R_nil _ _ _ _ _ | exact Kd.N_nil _ _ _ _ _ | exact Kd.V_nil _ _ _ _ _ | exact Kd.Q_nil _ _ _ _ _ | exact Kd.S_nil _ _ _ _ _, bf_ HB⟩
   ·replace c22 := Bool.eq_false_iff.mpr c22
    subst c22
    have H1 : ((impl_Fair_pick.f kj3 a0_0 a0_1 a0_2 a0_3 l0_4).bind fun t247 => (if t247 < 0 then (some (0, 0, 0, 0, ([] : List (S38)), 4)) else ((impl_copyFair.f a0_0 a0_1 a0_2 a0_3 l0_4).bind fun bt248 => (if 0 ≤ t247 then (if t247 < (bt248.2.2.2.2.length : Int) then ((impl_VecMost.f a0_1 a0_2 a0_3 ((rd_T38 bt248.2.2.2.2 t247).f3.f0) ((rd_T38 bt248.2.2.2.2 t247).f3.f1) ((rd_T38 bt248.2.2.2.2 t247).f3.f2)).bind fun bt257 => ((impl_VecTop.f bt257.1 bt257.2.1 bt257.2.2).bind fun t260 => (if t260 > 100000000000 then (some (0, 0, 0, 0, ([] : List (S38)), 7)) else ((impl_Finish.f kj3 ((rd_T38 bt248.2.2.2.2 t247).f3.f0) ((rd_T38 bt248.2.2.2.2 t247).f3.f1) ((rd_T38 bt248.2.2.2.2 t247).f3.f2) a1_0 a1_1 a1_2 ((rd_T38 bt248.2.2.2.2 t247).f1)).bind fun bt263 => ((impl_Dovetail.f bt263.1 bt263.2.1 bt263.2.2.1 a0_0).bind fun bt268 => ((some (bt248.2.2.2.2.set (t247 : Int).toNat (⟨(rd_T38 bt248.2.2.2.2 t247).f0, (rd_T38 bt248.2.2.2.2 t247).f1, (rd_T38 bt248.2.2.2.2 t247).f2, (⟨bt268.1, bt268.2.1, bt268.2.2⟩ : S29)⟩ : S38) : List (S38))).bind fun y271 => (some (bt248.1, bt257.1, bt257.2.1, bt257.2.2, (y271.set (t247 : Int).toNat (⟨(rd_T38 y271 t247).f0, (rd_T38 y271 t247).f1, a2, (⟨(rd_T38 y271 t247).f3.f0, (rd_T38 y271 t247).f3.f1, (rd_T38 y271 t247).f3.f2⟩ : S29)⟩ : S38)), 0)))))))) else (none)) else (none))))) = some (r1, r2, r3, r4, r5, r6) := by rw [if_neg (show ¬ (false = true) by decide)] at H; exact H
    clear H
    have H := H1
    clear H1
    replace H := Option.bind_eq_some_iff.mp H
    obtain ⟨t247, A260, H⟩ := H
    replace H : (if t247 < 0 then (some (0, 0, 0, 0, ([] : List (S38)), 4)) else ((impl_copyFair.f a0_0 a0_1 a0_2 a0_3 l0_4).bind fun bt248 => (if 0 ≤ t247 then (if t247 < (bt248.2.2.2.2.length : Int) then ((impl_VecMost.f a0_1 a0_2 a0_3 ((rd_T38 bt248.2.2.2.2 t247).f3.f0) ((rd_T38 bt248.2.2.2.2 t247).f3.f1) ((rd_T38 bt248.2.2.2.2 t247).f3.f2)).bind fun bt257 => ((impl_VecTop.f bt257.1 bt257.2.1 bt257.2.2).bind fun t260 => (if t260 > 100000000000 then (some (0, 0, 0, 0, ([] : List (S38)), 7)) else ((impl_Finish.f kj3 ((rd_T38 bt248.2.2.2.2 t247).f3.f0) ((rd_T38 bt248.2.2.2.2 t247).f3.f1) ((rd_T38 bt248.2.2.2.2 t247).f3.f2) a1_0 a1_1 a1_2 ((rd_T38 bt248.2.2.2.2 t247).f1)).bind fun bt263 => ((impl_Dovetail.f bt263.1 bt263.2.1 bt263.2.2.1 a0_0).bind fun bt268 => ((some (bt248.2.2.2.2.set (t247 : Int).toNat (⟨(rd_T38 bt248.2.2.2.2 t247).f0, (rd_T38 bt248.2.2.2.2 t247).f1, (rd_T38 bt248.2.2.2.2 t247).f2, (⟨bt268.1, bt268.2.1, bt268.2.2⟩ : S29)⟩ : S38) : List (S38))).bind fun y271 => (some (bt248.1, bt257.1, bt257.2.1, bt257.2.2, (y271.set (t247 : Int).toNat (⟨(rd_T38 y271 t247).f0, (rd_T38 y271 t247).f1, a2, (⟨(rd_T38 y271 t247).f3.f0, (rd_T38 y271 t247).f3.f1, (rd_T38 y271 t247).f3.f2⟩ : S29)⟩ : S38)), 0)))))))) else (none)) else (none)))) = some (r1, r2, r3, r4, r5, r6) := H
    have A26 := Aside0.mk A260
    clear A260
    by_cases c27 : t247 < 0
    ·rw [if_pos c27] at H
     have c27b0 : decide (t247 < 0) = true := decide_eq_true c27
     clear c27
     simp only [Option.some.injEq, Prod.mk.injEq] at H
     obtain ⟨rfl, rfl, rfl, rfl, rfl, rfl⟩ := H
     have hnb28 := NB242_243.out; have hnc28 := NB243_242.out; have hnb29 := NB242_244.out; have hnc29 := NB244_242.out; obtain ⟨hcz30_0, hcz30_1, hcz30_2, hcz30_3, hcz30_4, hfz30_0, hfz30_1, hfz30_2, hfz30_3, hfz30_4⟩ := bz5_ BK242
     go_wp2_with (first | ((with_reducible refine gc_ 56 rfl ?_); refine gl_ 23 Try.func56 #[.agg #[.int .i64 a0_0, .int .i64 a0_1, .int .i64 a0_2, .int .i64 a0_3, .slice A0_4 l0_4.length c0_4]] ?_; (with_reducible refine (impl_Fair_pick.calls kj3 a0_0 a0_1 a0_2 a0_3 _ _ l0_4 t247 _ ?side1 ?side2 A26.out).mono ?_); (case side1 => repeat (first | exact (Kd.C_below HR0_4.out HB.out) | (with_reducible refine Kd.C_alloc ?_ _) | (with_reducible refine Kd.C_drewN ?_ _) | (with_reducible refine Kd.C_drew ?_))); (case side2 => exact HC0_4.out); rintro e w31 ⟨rfl, hb⟩; refine ⟨_, rfl, ?_⟩; replace BK242 := bb_ BK242 hb; replace BK243 := bb_ BK243 hb; replace BK244 := bb_ BK244 hb; replace HB := Aside0.mk (below_step (bf_ HB) hb); (try clear hb); (try clear hb2); (try clear hk); (try clear hi); have hnb32 := NB244_243.out; have hnc32 := NB243_244.out; obtain ⟨hcz33_0, hcz33_1, hcz33_2, hcz33_3, hcz33_4, hfz33_0, hfz33_1, hfz33_2, hfz33_3, hfz33_4⟩ := bz5_ BK244))
     refine bodyPost_ret (results_ct rfl _ _ gb244 32 #[.int .i64 0, .int .i64 0, .int .i64 0, .int .i64 0, .slice none 0 0] (0, 0) _ rfl (by (with_reducible repeat (first | refine blk_drewN ?_ _ | refine blk_drew ?_ | refine blk_alloc ?_ _)); refine blk_put (cs := #[.int .i64 0, .int .i64 0, .int .i64 0, .int .i64 0, .slice none 0 0]) ?_ 4 _ rfl; (with_reducible repeat (first | refine blk_drewN ?_ _ | refine blk_drew ?_ | refine blk_alloc ?_ _)); refine blk_put (cs := #[.int .i64 0, .int .i64 0, .int .i64 0, .int .i64 0, .slice none 0 0]) ?_ 3 _ rfl; (with_reducible repeat (first | refine blk_drewN ?_ _ | refine blk_drew ?_ | refine blk_alloc ?_ _)); refine blk_put (cs := #[.int .i64 0, .int .i64 0, .int .i64 0, .int .i64 0, .slice none 0 0]) ?_ 2 _ rfl; (with_reducible repeat (first | refine blk_drewN ?_ _ | refine blk_drew ?_ | refine blk_alloc ?_ _)); refine blk_put (cs := #[.int .i64 0, .int .i64 0, .int .i64 0, .int .i64 0, .slice none 0 0]) ?_ 1 _ rfl; (with_reducible repeat (first | refine blk_drewN ?_ _ | refine blk_drew ?_ | refine blk_alloc ?_ _)); refine blk_put (cs := #[.int .i64 0, .int .i64 0, .int .i64 0, .int .i64 0, .slice none 0 0]) ?_ 0 _ rfl; exact bk_ BK244) Try.underlying32 rfl (by kernel_rfl)) rfl ?_
     exact ⟨_, by first | rfl | (simp [errW_none, errW_some] <;> rfl) | (simp [*, errW_none, errW_some] <;> rfl), by first | exact Kd.R_nil _ _ _ _ _ | exact Kd.N_nil _ _ _ _ _ | exact Kd.V_nil _ _ _ _ _ | exact Kd.Q_nil _ _ _ _ _ | exact Kd.S_nil _ _ _ _ _, bf_ HB⟩
    ·rw [if_neg c27] at H
     have c27b0 : decide (t247 < 0) = false := decide_eq_false c27
     clear c27
     replace H := Option.bind_eq_some_iff.mp H
     obtain ⟨⟨t248, t249, t250, t251, t252⟩, A340, H⟩ := H
     replace H : (if 0 ≤ t247 then (if t247 < (t252.length : Int) then ((impl_VecMost.f a0_1 a0_2 a0_3 ((rd_T38 t252 t247).f3.f0) ((rd_T38 t252 t247).f3.f1) ((rd_T38 t252 t247).f3.f2)).bind fun bt257 => ((impl_VecTop.f bt257.1 bt257.2.1 bt257.2.2).bind fun t260 => (if t260 > 100000000000 then (some (0, 0, 0, 0, ([] : List (S38)), 7)) else ((impl_Finish.f kj3 ((rd_T38 t252 t247).f3.f0) ((rd_T38 t252 t247).f3.f1) ((rd_T38 t252 t247).f3.f2) a1_0 a1_1 a1_2 ((rd_T38 t252 t247).f1)).bind fun bt263 => ((impl_Dovetail.f bt263.1 bt263.2.1 bt263.2.2.1 a0_0).bind fun bt268 => ((some (t252.set (t247 : Int).toNat (⟨(rd_T38 t252 t247).f0, (rd_T38 t252 t247).f1, (rd_T38 t252 t247).f2, (⟨bt268.1, bt268.2.1, bt268.2.2⟩ : S29)⟩ : S38) : List (S38))).bind fun y271 => (some (t248, bt257.1, bt257.2.1, bt257.2.2, (y271.set (t247 : Int).toNat (⟨(rd_T38 y271 t247).f0, (rd_T38 y271 t247).f1, a2, (⟨(rd_T38 y271 t247).f3.f0, (rd_T38 y271 t247).f3.f1, (rd_T38 y271 t247).f3.f2⟩ : S29)⟩ : S38)), 0)))))))) else (none)) else (none)) = some (r1, r2, r3, r4, r5, r6) := H
     have A34 := Aside0.mk A340
     clear A340
     by_cases c35 : 0 ≤ t247
     ·rw [if_pos c35] at H
      have c35b0 : decide (0 ≤ t247) = true := decide_eq_true c35
      clear c35
      by_cases c36 : t247 < (t252.length : Int)
      ·rw [if_pos c36] at H
       have c36b0 : decide (t247 < (t252.length : Int)) = true := decide_eq_true c36
       clear c36
       replace H := Option.bind_eq_some_iff.mp H
       obtain ⟨⟨t257, t258, t259⟩, A380, H⟩ := H
       replace H : ((impl_VecTop.f t257 t258 t259).bind fun t260 => (if t260 > 100000000000 then (some (0, 0, 0, 0, ([] : List (S38)), 7)) else ((impl_Finish.f kj3 ((rd_T38 t252 t247).f3.f0) ((rd_T38 t252 t247).f3.f1) ((rd_T38 t252 t247).f3.f2) a1_0 a1_1 a1_2 ((rd_T38 t252 t247).f1)).bind fun bt263 => ((impl_Dovetail.f bt263.1 bt263.2.1 bt263.2.2.1 a0_0).bind fun bt268 => ((some (t252.set (t247 : Int).toNat (⟨(rd_T38 t252 t247).f0, (rd_T38 t252 t247).f1, (rd_T38 t252 t247).f2, (⟨bt268.1, bt268.2.1, bt268.2.2⟩ : S29)⟩ : S38) : List (S38))).bind fun y271 => (some (t248, t257, t258, t259, (y271.set (t247 : Int).toNat (⟨(rd_T38 y271 t247).f0, (rd_T38 y271 t247).f1, a2, (⟨(rd_T38 y271 t247).f3.f0, (rd_T38 y271 t247).f3.f1, (rd_T38 y271 t247).f3.f2⟩ : S29)⟩ : S38)), 0))))))) = some (r1, r2, r3, r4, r5, r6) := H
       have A38 := Aside0.mk A380
       clear A380
       replace H := Option.bind_eq_some_iff.mp H
       obtain ⟨t260, A390, H⟩ := H
       replace H : (if t260 > 100000000000 then (some (0, 0, 0, 0, ([] : List (S38)), 7)) else ((impl_Finish.f kj3 ((rd_T38 t252 t247).f3.f0) ((rd_T38 t252 t247).f3.f1) ((rd_T38 t252 t247).f3.f2) a1_0 a1_1 a1_2 ((rd_T38 t252 t247).f1)).bind fun bt263 => ((impl_Dovetail.f bt263.1 bt263.2.1 bt263.2.2.1 a0_0).bind fun bt268 => ((some (t252.set (t247 : Int).toNat (⟨(rd_T38 t252 t247).f0, (rd_T38 t252 t247).f1, (rd_T38 t252 t247).f2, (⟨bt268.1, bt268.2.1, bt268.2.2⟩ : S29)⟩ : S38) : List (S38))).bind fun y271 => (some (t248, t257, t258, t259, (y271.set (t247 : Int).toNat (⟨(rd_T38 y271 t247).f0, (rd_T38 y271 t247).f1, a2, (⟨(rd_T38 y271 t247).f3.f0, (rd_T38 y271 t247).f3.f1, (rd_T38 y271 t247).f3.f2⟩ : S29)⟩ : S38)), 0)))))) = some (r1, r2, r3, r4, r5, r6) := H
       have A39 := Aside0.mk A390
       clear A390
       by_cases c40 : t260 > 100000000000
       ·rw [if_pos c40] at H
        have c40b0 : decide (100000000000 < t260) = true := decide_eq_true c40
        clear c40
        simp only [Option.some.injEq, Prod.mk.injEq] at H
        obtain ⟨rfl, rfl, rfl, rfl, rfl, rfl⟩ := H
        have hnb41 := NB242_243.out; have hnc41 := NB243_242.out; have hnb42 := NB242_244.out; have hnc42 := NB244_242.out; obtain ⟨hcz43_0, hcz43_1, hcz43_2, hcz43_3, hcz43_4, hfz43_0, hfz43_1, hfz43_2, hfz43_3, hfz43_4⟩ := bz5_ BK242
        try go_wp2_with (first | ((with_reducible refine gc_ 56 rfl ?_); refine gl_ 23 Try.func56 #[.agg #[.int .i64 a0_0, .int .i64 a0_1, .int .i64 a0_2, .int .i64 a0_3, .slice A0_4 l0_4.length c0_4]] ?_; (with_reducible refine (impl_Fair_pick.calls kj3 a0_0 a0_1 a0_2 a0_3 _ _ l0_4 t247 _ ?side1 ?side2 A26.out).mono ?_); (case side1 => repeat (first | exact (Kd.C_below HR0_4.out HB.out) | (with_reducible refine Kd.C_alloc ?_ _) | (with_reducible refine Kd.C_drewN ?_ _) | (with_reducible refine Kd.C_drew ?_))); (case side2 => exact HC0_4.out); rintro e w44 ⟨rfl, hb⟩; refine ⟨_, rfl, ?_⟩; replace BK242 := bb_ BK242 hb; replace BK243 := bb_ BK243 hb; replace BK244 := bb_ BK244 hb; replace HB := Aside0.mk (below_step (bf_ HB) hb); (try clear hb); (try clear hb2); (try clear hk); (try clear hi); obtain ⟨hcz45_0, hcz45_1, hcz45_2, hcz45_3, hcz45_4, hfz45_0, hfz45_1, hfz45_2, hfz45_3, hfz45_4⟩ := bz5_ BK242) | ((with_reducible refine gc_ 62 rfl ?_); refine gl_ 28 Try.func62 #[.agg #[.int .i64 a0_0, .int .i64 a0_1, .int .i64 a0_2, .int .i64 a0_3, .slice A0_4 l0_4.length c0_4]] ?_; (with_reducible refine (impl_copyFair.calls a0_0 a0_1 a0_2 a0_3 _ _ l0_4 t248 t249 t250 t251 t252 _ ?side1 ?side2 A34.out).mono ?_); (case side1 => repeat (first | exact (Kd.C_below HR0_4.out HB.out) | (with_reducible refine Kd.C_alloc ?_ _) | (with_reducible refine Kd.C_drewN ?_ _) | (with_reducible refine Kd.C_drew ?_))); (case side2 => exact HC0_4.out); rintro e w46 ⟨v253, rfl, ho0, hb⟩; refine ⟨_, rfl, ?_⟩; have HO254 := Aside0.mk (Kd.R_lower ho0 (below_size (bf_ HB))); replace BK242 := bb_ BK242 hb; replace BK243 := bb_ BK243 hb; replace BK244 := bb_ BK244 hb; replace HB := Aside0.mk (below_step (bf_ HB) hb); (try clear hb); (try clear hb2); (try clear hk); (try clear hi); (try clear ho0)) | ((with_reducible refine gd_ 9 rfl ?_); refine bv_ 9 #[.int .i64 0, .int .i64 0, .int .i64 0, .int .i64 0, .slice none 0 0] 32 ?_; intro gb255 hg w47 hbox hb; replace HO254 := Aside0.mk (Kd.R_below (kr_ HO254) hb); have BK255 := Aside0.mk (hbox); have GW255 := gw_ HB hg; have GE255 := gw_ HB hg; replace HB := Aside0.mk (below_step (bf_ HB) hb); have NB242_255 := nl_ BK242 hg; have NB255_242 := ng_ BK242 hg; replace BK242 := bb_ BK242 hb; have NB243_255 := nl_ BK243 hg; have NB255_243 := ng_ BK243 hg; replace BK243 := bb_ BK243 hb; have NB244_255 := nl_ BK244 hg; have NB255_244 := ng_ BK244 hg; replace BK244 := bb_ BK244 hb; clear hb hbox hg; have hnb48 := NB255_242.out; have hnc48 := NB242_255.out; have hnb49 := NB255_243.out; have hnc49 := NB243_255.out; have hnb50 := NB255_244.out; have hnc50 := NB244_255.out; obtain ⟨hcz51_0, hcz51_1, hcz51_2, hcz51_3, hcz51_4, hfz51_0, hfz51_1, hfz51_2, hfz51_3, hfz51_4⟩ := bz5_ BK255; obtain ⟨Ao52, co52, eo52⟩ := Kd.R_slice HO254.out; subst eo52) | ((with_reducible refine gate_store (t := 32) (p := 9) rfl ?_); refine store_event (t := 32) (p := 9) (v := ?vo_w53) (w1 := (((((w47.setCell ⟨gb255, 0, none⟩ (.int .i64 t248)).setCell ⟨gb255, 1, none⟩ (.int .i64 t249)).setCell ⟨gb255, 2, none⟩ (.int .i64 t250)).setCell ⟨gb255, 3, none⟩ (.int .i64 t251)).setCell ⟨gb255, 4, none⟩ (.slice Ao52 t252.length co52))) ?hg ?ho ?hn ?hr ?_; (case ho => rfl); (case hg => rfl); (case hn => rfl); (case hr => first | (go_simp; done) | (go_simp; rfl)); intro w53 hw; have n0_ : Aside0 (Kd.R k38 38 w53 w.heap.size (fun _ => True) (.slice Ao52 t252.length co52) t252) := ⟨(by rw [hw]; exact (by (with_reducible repeat (first | apply Kd.R_alloc | apply Kd.R_drewN | apply Kd.R_drew)); exact Kd.R_mono (Kd.R_far (p := ⟨gb255, 4, none⟩) (Kd.R_far (p := ⟨gb255, 3, none⟩) (Kd.R_far (p := ⟨gb255, 2, none⟩) (Kd.R_far (p := ⟨gb255, 1, none⟩) (Kd.R_far (p := ⟨gb255, 0, none⟩) (Kd.R_types HO254.out BK255.out (by decide)) (fun _ hk => by first | exact hk.2 | grind) (.int .i64 t248)) (fun _ hk => by first | exact hk.2 | grind) (.int .i64 t249)) (fun _ hk => by first | exact hk.2 | grind) (.int .i64 t250)) (fun _ hk => by first | exact hk.2 | grind) (.int .i64 t251)) (fun _ hk => by first | exact hk.2 | grind) (.slice Ao52 t252.length co52)) (fun _ hk => by first | exact trivial | grind)))⟩; have n1_ : Aside0 (w53.heap[gb242]? = some (.cells #[.int .i64 a0_0, .int .i64 a0_1, .int .i64 a0_2, .int .i64 a0_3, .slice A0_4 l0_4.length c0_4] 32 (0, 0))) := ⟨(by rw [hw]; exact (bl_ BK242))⟩; have n2_ : Aside0 (w53.heap[gb243]? = some (.cells #[.int .i64 a1_0, .int .i64 a1_1, .int .i64 a1_2] 29 (0, 0))) := ⟨(by rw [hw]; exact (bl_ BK243))⟩; have n3_ : Aside0 (w53.heap[gb244]? = some (.cells #[.int .i64 0, .int .i64 0, .int .i64 0, .int .i64 0, .slice none 0 0] 32 (0, 0))) := ⟨(by rw [hw]; exact (bl_ BK244))⟩; have n4_ : Aside0 (w53.heap[gb255]? = some (.cells #[.int .i64 t248, .int .i64 t249, .int .i64 t250, .int .i64 t251, .slice Ao52 t252.length co52] 32 (0, 0))) := ⟨(by rw [hw]; exact (by (with_reducible repeat (first | refine blk_drewN ?_ _ | refine blk_drew ?_ | refine blk_alloc ?_ _)); refine blk_put (cs := #[.int .i64 t248, .int .i64 t249, .int .i64 t250, .int .i64 t251, .slice none 0 0]) ?_ 4 _ rfl; (with_reducible repeat (first | refine blk_drewN ?_ _ | refine blk_drew ?_ | refine blk_alloc ?_ _)); refine blk_put (cs := #[.int .i64 t248, .int .i64 t249, .int .i64 t250, .int .i64 0, .slice none 0 0]) ?_ 3 _ rfl; (with_reducible repeat (first | refine blk_drewN ?_ _ | refine blk_drew ?_ | refine blk_alloc ?_ _)); refine blk_put (cs := #[.int .i64 t248, .int .i64 t249, .int .i64 0, .int .i64 0, .slice none 0 0]) ?_ 2 _ rfl; (with_reducible repeat (first | refine blk_drewN ?_ _ | refine blk_drew ?_ | refine blk_alloc ?_ _)); refine blk_put (cs := #[.int .i64 t248, .int .i64 0, .int .i64 0, .int .i64 0, .slice none 0 0]) ?_ 1 _ rfl; (with_reducible repeat (first | refine blk_drewN ?_ _ | refine blk_drew ?_ | refine blk_alloc ?_ _)); refine blk_put (cs := #[.int .i64 0, .int .i64 0, .int .i64 0, .int .i64 0, .slice none 0 0]) ?_ 0 _ rfl; exact bk_ BK255))⟩; have n5_ : Aside0 (Below w.heap.size w w53) := ⟨(by rw [hw]; exact (bf_ HB))⟩; clear hw HO254 BK242 BK243 BK244 BK255 HB; have HO254 := n0_; have BK242 := n1_; have BK243 := n2_; have BK244 := n3_; have BK255 := n4_; have HB := n5_; clear n0_ n1_ n2_ n3_ n4_ n5_; obtain ⟨hcz54_0, hcz54_1, hcz54_2, hcz54_3, hcz54_4, hfz54_0, hfz54_1, hfz54_2, hfz54_3, hfz54_4⟩ := bz5_ BK255; have p37 : 0 ≤ (t247 : Int) := od_; have q37 : (t247 : Int) < ((t252.length : Int) : Int) := od_; obtain ⟨go37, co37, eo37, gb37, gl37, cl37, HG37⟩ := Kd.R_form HO254.out (by omega); (first | cases eo37 | (injection eo37 with ea_ en_ ec_; (first | subst ea_ | (injection ea_ with ea_; subst ea_)); subst ec_; clear en_)); have GB37 := Aside0.mk gb37; have GG37 := Aside0.mk HG37; clear gb37 gl37 HG37; obtain ⟨ce37, hcl37, hM37, hcc37, hfr37⟩ := Kd.R_elem HO254.out z38 (t247 : Int) p37 q37; obtain rfl := k38_openM hM37; have hx37_0 : w53.cell? ⟨go37, (t247 : Int).toNat * 6, none⟩ = some (.int .i64 ((rd_T38 t252 t247).f0)) := hcc37 0 _ rfl; have hx37_1 : w53.cell? ⟨go37, (t247 : Int).toNat * 6 + 1, none⟩ = some (.int .i64 ((rd_T38 t252 t247).f1)) := hcc37 1 _ rfl; have hx37_2 : w53.cell? ⟨go37, (t247 : Int).toNat * 6 + 2, none⟩ = some (.bool ((rd_T38 t252 t247).f2)) := hcc37 2 _ rfl; have hx37_3 : w53.cell? ⟨go37, (t247 : Int).toNat * 6 + 3, none⟩ = some (.int .i64 ((rd_T38 t252 t247).f3.f0)) := hcc37 3 _ rfl; have hx37_4 : w53.cell? ⟨go37, (t247 : Int).toNat * 6 + 4, none⟩ = some (.int .i64 ((rd_T38 t252 t247).f3.f1)) := hcc37 4 _ rfl; have hx37_5 : w53.cell? ⟨go37, (t247 : Int).toNat * 6 + 5, none⟩ = some (.int .i64 ((rd_T38 t252 t247).f3.f2)) := hcc37 5 _ rfl; have hf37_0 : w53.frozen? ⟨go37, (t247 : Int).toNat * 6, none⟩ = false := hfr37 0; have hf37_1 : w53.frozen? ⟨go37, (t247 : Int).toNat * 6 + 1, none⟩ = false := hfr37 1; have hf37_2 : w53.frozen? ⟨go37, (t247 : Int).toNat * 6 + 2, none⟩ = false := hfr37 2; have hf37_3 : w53.frozen? ⟨go37, (t247 : Int).toNat * 6 + 3, none⟩ = false := hfr37 3; have hf37_4 : w53.frozen? ⟨go37, (t247 : Int).toNat * 6 + 4, none⟩ = false := hfr37 4; have hf37_5 : w53.frozen? ⟨go37, (t247 : Int).toNat * 6 + 5, none⟩ = false := hfr37 5; clear hcl37 hcc37 hfr37 hM37; replace p37 := eq_true p37; replace q37 := eq_true q37))
        replace HO254 := Aside0.mk (Kd.R_drew HO254.out); replace BK242 := Aside0.mk (blk_drew BK242.out); replace BK243 := Aside0.mk (blk_drew BK243.out); replace BK244 := Aside0.mk (blk_drew BK244.out); replace BK255 := Aside0.mk (blk_drew BK255.out); replace HB := Aside0.mk (below_drew1 HB.out)
        have p256 : 0 ≤ (t247 : Int) := od_
        have q256 : t247 < (t252.length : Int) := od_
        obtain ⟨ad256, e256, hx256_0, hx256_1, hx256_2, hx256_3, hx256_4, hx256_5⟩ := at_T38 (Kd.R_reads' HO254.out).2.2 t247 p256 q256
        obtain rfl : (⟨go37, 0, none⟩ : Addr) = ad256 := (by injection e256)
        (first | simp only [add_plain] at hx256_0 | simp only [add_at] at hx256_0 | simp only [Addr.add, Nat.zero_add] at hx256_0 | skip)
        (first | simp only [add_plain] at hx256_1 | simp only [add_at] at hx256_1 | simp only [Addr.add, Nat.zero_add] at hx256_1 | skip)
        (first | simp only [add_plain] at hx256_2 | simp only [add_at] at hx256_2 | simp only [Addr.add, Nat.zero_add] at hx256_2 | skip)
        (first | simp only [add_plain] at hx256_3 | simp only [add_at] at hx256_3 | simp only [Addr.add, Nat.zero_add] at hx256_3 | skip)
        (first | simp only [add_plain] at hx256_4 | simp only [add_at] at hx256_4 | simp only [Addr.add, Nat.zero_add] at hx256_4 | skip)
        (first | simp only [add_plain] at hx256_5 | simp only [add_at] at hx256_5 | simp only [Addr.add, Nat.zero_add] at hx256_5 | skip)
        replace p256 := eq_true p256
        replace q256 := eq_true q256
        refine start_ (n := 9) (S := fun w' => cw_ w' gb242 0 (.int .i64 a0_0) ∧ cw_ w' gb242 1 (.int .i64 a0_1) ∧ cw_ w' gb242 2 (.int .i64 a0_2) ∧ cw_ w' gb242 3 (.int .i64 a0_3) ∧ cw_ w' gb242 4 (.slice A0_4 l0_4.length c0_4) ∧ w'.cell? ⟨go37, (t247).toNat * 6, none⟩ = some (.int .i64 ((rd_T38 t252 t247).f0)) ∧ w'.cell? ⟨go37, (t247).toNat * 6 + 1, none⟩ = some (.int .i64 ((rd_T38 t252 t247).f1)) ∧ w'.cell? ⟨go37, (t247).toNat * 6 + 2, none⟩ = some (.bool ((rd_T38 t252 t247).f2)) ∧ w'.cell? ⟨go37, (t247).toNat * 6 + 3, none⟩ = some (.int .i64 ((rd_T38 t252 t247).f3.f0)) ∧ w'.cell? ⟨go37, (t247).toNat * 6 + 4, none⟩ = some (.int .i64 ((rd_T38 t252 t247).f3.f1)) ∧ w'.cell? ⟨go37, (t247).toNat * 6 + 5, none⟩ = some (.int .i64 ((rd_T38 t252 t247).f3.f2))) (ds := []) (bs 9 0) (by kernel_rfl) rfl rfl ⟨bt_ BK242 0, bt_ BK242 1, bt_ BK242 2, bt_ BK242 3, bt_ BK242 4, hx256_0, hx256_1, hx256_2, hx256_3, hx256_4, hx256_5⟩ (fun hHeld => ?_); refine with_tabW impl_FairServe.tab8 impl_FairServe.bits8 (fun HT_ HW_ => ?_)
        generalize w53.drew = w55 at HO254 BK242 BK243 BK244 BK255 HB hx256_0 hx256_1 hx256_2 hx256_3 hx256_4 hx256_5 hHeld ⊢
        refine ps_ 0 33 (bs 9 1) HT_ ?_
        refine ps_ 2 35 (bm 9 5) HT_ ?_
        refine ps_ 3 36 (bm 9 13) HT_ ?_
        refine ps_ 4 37 (bm 9 29) HT_ ?_
        refine tk_ 1 34 (bs 9 5) HT_ HW_ hHeld ?_
        refine tk_ 5 38 (bs 9 6) HT_ HW_ hHeld ?_
        refine on_ 6 (some 39) (bs 9 7) HT_ (fun K hK => ?_)
        refine gs_ Try.func69 #[.agg #[.int .i64 a0_1, .int .i64 a0_2, .int .i64 a0_3], .agg #[.int .i64 ((rd_T38 t252 t247).f3.f0), .int .i64 ((rd_T38 t252 t247).f3.f1), .int .i64 ((rd_T38 t252 t247).f3.f2)]] ?_
        with_reducible refine (impl_VecMost.calls a0_1 a0_2 a0_3 ((rd_T38 t252 t247).f3.f0) ((rd_T38 t252 t247).f3.f1) ((rd_T38 t252 t247).f3.f2) t257 t258 t259 _ A38.out).mono ?_
        rintro e w56 ⟨rfl, hb⟩
        have HS5_ := hc_ hb hHeld.2.2.2.2.2.1
        have HS6_ := hc_ hb hHeld.2.2.2.2.2.2.1
        have HS7_ := hc_ hb hHeld.2.2.2.2.2.2.2.1
        have HS8_ := hc_ hb hHeld.2.2.2.2.2.2.2.2.1
        have HS9_ := hc_ hb hHeld.2.2.2.2.2.2.2.2.2.1
        have HS10_ := hc_ hb hHeld.2.2.2.2.2.2.2.2.2.2
        refine ⟨_, rfl, ?_⟩
        replace HO254 := Aside0.mk (Kd.R_below (kr_ HO254) hb); replace BK242 := bb_ BK242 hb; replace BK243 := bb_ BK243 hb; replace BK244 := bb_ BK244 hb; replace BK255 := bb_ BK255 hb; replace HB := Aside0.mk (below_step (bf_ HB) hb); (try clear hb); (try clear hb2); (try clear hk); (try clear hi)
        refine hK.out _ _ ⟨bt_ BK242 0, bt_ BK242 1, bt_ BK242 2, bt_ BK242 3, bt_ BK242 4, HS5_, HS6_, HS7_, HS8_, HS9_, HS10_⟩ (fun hHeld => ?_)
        clear hK K
        refine norm_ (a' := ?_) ?_ ?_
        rotate_left
        ·show Act.put _ (some 39) _ = _
         simp only [Act.put, ls0_, ls1_, ls2_, i64_w, i32_w]
         rfl
        refine ps_ 7 40 (bs 9 8) HT_ ?_
        refine on_ 8 none (bs 9 9) HT_ (fun K hK => ?_)
        have hs57 := bc_ BK255 1 (.int .i64 t249) rfl; have hfs57 := blk_frozen BK255.out 1; have hns57_0 := NB242_255.out; have hns57_1 := NB243_255.out; have hns57_2 := NB244_255.out; have hms57_0 := NB255_242.out; have hms57_1 := NB255_243.out; have hms57_2 := NB255_244.out; have hs58 := bc_ BK255 2 (.int .i64 t250) rfl; have hfs58 := blk_frozen BK255.out 2; have hns58_0 := NB242_255.out; have hns58_1 := NB243_255.out; have hns58_2 := NB244_255.out; have hms58_0 := NB255_242.out; have hms58_1 := NB255_243.out; have hms58_2 := NB255_244.out; have hs59 := bc_ BK255 3 (.int .i64 t251) rfl; have hfs59 := blk_frozen BK255.out 3; have hns59_0 := NB242_255.out; have hns59_1 := NB243_255.out; have hns59_2 := NB244_255.out; have hms59_0 := NB255_242.out; have hms59_1 := NB255_243.out; have hms59_2 := NB255_244.out
        refine skip_ (w1 := ?_) (by rfl) rfl ?_ ?_
        rotate_left
        ·go_simp
         rfl
        refine hK.out _ _ ⟨(cf3_ NB242_255.out hHeld.1), (cf3_ NB242_255.out hHeld.2.1), (cf3_ NB242_255.out hHeld.2.2.1), (cf3_ NB242_255.out hHeld.2.2.2.1), (cf3_ NB242_255.out hHeld.2.2.2.2.1), (cf3_ (ab_ (Kd.own_blk (Kd.R_ne HO254.out BK255.out (by decide)))) hHeld.2.2.2.2.2.1), (cf3_ (ab_ (Kd.own_blk (Kd.R_ne HO254.out BK255.out (by decide)))) hHeld.2.2.2.2.2.2.1), (cf3_ (ab_ (Kd.own_blk (Kd.R_ne HO254.out BK255.out (by decide)))) hHeld.2.2.2.2.2.2.2.1), (cf3_ (ab_ (Kd.own_blk (Kd.R_ne HO254.out BK255.out (by decide)))) hHeld.2.2.2.2.2.2.2.2.1), (cf3_ (ab_ (Kd.own_blk (Kd.R_ne HO254.out BK255.out (by decide)))) hHeld.2.2.2.2.2.2.2.2.2.1), (cf3_ (ab_ (Kd.own_blk (Kd.R_ne HO254.out BK255.out (by decide)))) hHeld.2.2.2.2.2.2.2.2.2.2)⟩ (fun hHeld => ?_)
        clear hK K
        refine done_ (done_of HT_.out (by kernel_rfl)) ?_
        have hcz60_0 := bc_ BK255 0 (.int .i64 t248) rfl; have hcz60_1 := bc_ BK255 1 (.int .i64 t249) rfl; have hcz60_2 := bc_ BK255 2 (.int .i64 t250) rfl; have hcz60_3 := bc_ BK255 3 (.int .i64 t251) rfl
        have hcz60_4 := bc_ BK255 4 (.slice (some ⟨go37, 0, none⟩) t252.length co52) rfl
        have hfz60_0 := blk_frozen BK255.out 0; have hfz60_1 := blk_frozen BK255.out 1; have hfz60_2 := blk_frozen BK255.out 2; have hfz60_3 := blk_frozen BK255.out 3; have hfz60_4 := blk_frozen BK255.out 4
        try go_wp2_with (first | ((with_reducible refine gc_ 52 rfl ?_); refine gl_ 43 Try.func52 #[.agg #[.int .i64 t257, .int .i64 t258, .int .i64 t259]] ?_; (with_reducible refine (impl_VecTop.calls t257 t258 t259 t260 _ A39.out).mono ?_); rintro e w61 ⟨rfl, hb⟩; refine ⟨_, rfl, ?_⟩; replace HO254 := Aside0.mk (Kd.R_below (by (with_reducible repeat (first | apply Kd.R_alloc | apply Kd.R_drewN | apply Kd.R_drew)); exact (Kd.R_mono (Kd.R_far (p := ⟨gb255, 3, none⟩) (Kd.R_far (p := ⟨gb255, 2, none⟩) (Kd.R_far (p := ⟨gb255, 1, none⟩) (Kd.R_types HO254.out BK255.out (by decide)) (fun _ hk => by first | exact hk.2 | grind) (.int .i64 t257)) (fun _ hk => by first | exact hk.2 | grind) (.int .i64 t258)) (fun _ hk => by first | exact hk.2 | grind) (.int .i64 t259)) (fun _ h_ => h_.1))) hb); replace BK242 := bm_ BK242 hb; replace BK243 := bm_ BK243 hb; replace BK244 := bm_ BK244 hb; replace BK255 := Aside0.mk (blk_below (g := gb255) (o := .cells #[.int .i64 t248, .int .i64 t257, .int .i64 t258, .int .i64 t259, .slice (some ⟨go37, 0, none⟩) t252.length co52] 32 (0, 0)) (by (with_reducible repeat (first | refine blk_drewN ?_ _ | refine blk_drew ?_ | refine blk_alloc ?_ _)); refine blk_put (cs := #[.int .i64 t248, .int .i64 t257, .int .i64 t258, .int .i64 t251, .slice (some ⟨go37, 0, none⟩) t252.length co52]) ?_ 3 _ rfl; (with_reducible repeat (first | refine blk_drewN ?_ _ | refine blk_drew ?_ | refine blk_alloc ?_ _)); refine blk_put (cs := #[.int .i64 t248, .int .i64 t257, .int .i64 t250, .int .i64 t251, .slice (some ⟨go37, 0, none⟩) t252.length co52]) ?_ 2 _ rfl; (with_reducible repeat (first | refine blk_drewN ?_ _ | refine blk_drew ?_ | refine blk_alloc ?_ _)); refine blk_put (cs := #[.int .i64 t248, .int .i64 t249, .int .i64 t250, .int .i64 t251, .slice (some ⟨go37, 0, none⟩) t252.length co52]) ?_ 1 _ rfl; exact bk_ BK255) hb); replace HB := Aside0.mk (below_step (bf_ HB) hb); (try clear hb); (try clear hb2); (try clear hk); (try clear hi); have hnb62 := NB244_243.out; have hnc62 := NB243_244.out; obtain ⟨hcz63_0, hcz63_1, hcz63_2, hcz63_3, hcz63_4, hfz63_0, hfz63_1, hfz63_2, hfz63_3, hfz63_4⟩ := bz5_ BK244))
        refine bodyPost_ret (results_ct rfl _ _ gb244 32 #[.int .i64 0, .int .i64 0, .int .i64 0, .int .i64 0, .slice none 0 0] (0, 0) _ rfl (by (with_reducible repeat (first | refine blk_drewN ?_ _ | refine blk_drew ?_ | refine blk_alloc ?_ _)); refine blk_put (cs := #[.int .i64 0, .int .i64 0, .int .i64 0, .int .i64 0, .slice none 0 0]) ?_ 4 _ rfl; (with_reducible repeat (first | refine blk_drewN ?_ _ | refine blk_drew ?_ | refine blk_alloc ?_ _)); refine blk_put (cs := #[.int .i64 0, .int .i64 0, .int .i64 0, .int .i64 0, .slice none 0 0]) ?_ 3 _ rfl; (with_reducible repeat (first | refine blk_drewN ?_ _ | refine blk_drew ?_ | refine blk_alloc ?_ _)); refine blk_put (cs := #[.int .i64 0, .int .i64 0, .int .i64 0, .int .i64 0, .slice none 0 0]) ?_ 2 _ rfl; (with_reducible repeat (first | refine blk_drewN ?_ _ | refine blk_drew ?_ | refine blk_alloc ?_ _)); refine blk_put (cs := #[.int .i64 0, .int .i64 0, .int .i64 0, .int .i64 0, .slice none 0 0]) ?_ 1 _ rfl; (with_reducible repeat (first | refine blk_drewN ?_ _ | refine blk_drew ?_ | refine blk_alloc ?_ _)); refine blk_put (cs := #[.int .i64 0, .int .i64 0, .int .i64 0, .int .i64 0, .slice none 0 0]) ?_ 0 _ rfl; exact bk_ BK244) Try.underlying32 rfl (by kernel_rfl)) rfl ?_
        exact ⟨_, by first | rfl | (simp [errW_none, errW_some] <;> rfl) | (simp [*, errW_none, errW_some] <;> rfl), by first | exact Kd.R_nil _ _ _ _ _ | exact Kd.N_nil _ _ _ _ _ | exact Kd.V_nil _ _ _ _ _ | exact Kd.Q_nil _ _ _ _ _ | exact Kd.S_nil _ _ _ _ _, bf_ HB⟩
       ·rw [if_neg c40] at H
        have c40b0 : decide (100000000000 < t260) = false := decide_eq_false c40
        clear c40
        replace H := Option.bind_eq_some_iff.mp H
        obtain ⟨⟨t263, t264, t265, t266⟩, A640, H⟩ := H
        replace H : ((impl_Dovetail.f t263 t264 t265 a0_0).bind fun bt268 => ((some (t252.set (t247 : Int).toNat (⟨(rd_T38 t252 t247).f0, (rd_T38 t252 t247).f1, (rd_T38 t252 t247).f2, (⟨bt268.1, bt268.2.1, bt268.2.2⟩ : S29)⟩ : S38) : List (S38))).bind fun y271 => (some (t248, t257, t258, t259, (y271.set (t247 : Int).toNat (⟨(rd_T38 y271 t247).f0, (rd_T38 y271 t247).f1, a2, (⟨(rd_T38 y271 t247).f3.f0, (rd_T38 y271 t247).f3.f1, (rd_T38 y271 t247).f3.f2⟩ : S29)⟩ : S38)), 0)))) = some (r1, r2, r3, r4, r5, r6) := H
        have A64 := Aside0.mk A640
        clear A640
        replace H := Option.bind_eq_some_iff.mp H
        obtain ⟨⟨t268, t269, t270⟩, A650, H⟩ := H
        replace H : ((some (t252.set (t247 : Int).toNat (⟨(rd_T38 t252 t247).f0, (rd_T38 t252 t247).f1, (rd_T38 t252 t247).f2, (⟨t268, t269, t270⟩ : S29)⟩ : S38) : List (S38))).bind fun y271 => (some (t248, t257, t258, t259, (y271.set (t247 : Int).toNat (⟨(rd_T38 y271 t247).f0, (rd_T38 y271 t247).f1, a2, (⟨(rd_T38 y271 t247).f3.f0, (rd_T38 y271 t247).f3.f1, (rd_T38 y271 t247).f3.f2⟩ : S29)⟩ : S38)), 0))) = some (r1, r2, r3, r4, r5, r6) := H
        have A65 := Aside0.mk A650
        clear A650
        obtain ⟨y271, hy271⟩ : ∃ y_ : List (S38), y_ = (t252.set (t247 : Int).toNat (⟨(rd_T38 t252 t247).f0, (rd_T38 t252 t247).f1, (rd_T38 t252 t247).f2, (⟨t268, t269, t270⟩ : S29)⟩ : S38)) := ⟨_, rfl⟩
        replace H : (some (t248, t257, t258, t259, (y271.set (t247 : Int).toNat (⟨(rd_T38 y271 t247).f0, (rd_T38 y271 t247).f1, a2, (⟨(rd_T38 y271 t247).f3.f0, (rd_T38 y271 t247).f3.f1, (rd_T38 y271 t247).f3.f2⟩ : S29)⟩ : S38)), 0)) = some (r1, r2, r3, r4, r5, r6) := by first | (rw [hy271]; with_reducible exact H) | (have H2_ := (Option.bind_some _ _).symm.trans H; rw [hy271]; with_reducible exact H2_) | (have H2_ := (Option.bind_some _ _).symm.trans H; with_reducible exact H2_) | with_reducible exact H | (rw [hy271]; exact H) | exact H
        have Ny271 := Aside0.mk hy271
        clear hy271
        obtain ⟨y272, hy272⟩ : ∃ y_ : List (S38), y_ = (y271.set (t247 : Int).toNat (⟨(rd_T38 y271 t247).f0, (rd_T38 y271 t247).f1, a2, (⟨(rd_T38 y271 t247).f3.f0, (rd_T38 y271 t247).f3.f1, (rd_T38 y271 t247).f3.f2⟩ : S29)⟩ : S38)) := ⟨_, rfl⟩
        replace H : (some (t248, t257, t258, t259, y272, 0)) = some (r1, r2, r3, r4, r5, r6) := by first | (rw [hy272]; with_reducible exact H) | (have H2_ := (Option.bind_some _ _).symm.trans H; rw [hy272]; with_reducible exact H2_) | (have H2_ := (Option.bind_some _ _).symm.trans H; with_reducible exact H2_) | with_reducible exact H | (rw [hy272]; exact H) | exact H
        have Ny272 := Aside0.mk hy272
        clear hy272
        simp only [Option.some.injEq, Prod.mk.injEq] at H
        obtain ⟨rfl, rfl, rfl, rfl, rfl, rfl⟩ := H
        have hnb66 := NB242_243.out; have hnc66 := NB243_242.out; have hnb67 := NB242_244.out; have hnc67 := NB244_242.out; obtain ⟨hcz68_0, hcz68_1, hcz68_2, hcz68_3, hcz68_4, hfz68_0, hfz68_1, hfz68_2, hfz68_3, hfz68_4⟩ := bz5_ BK242
        try go_wp2_with (first | ((with_reducible refine gc_ 56 rfl ?_); refine gl_ 23 Try.func56 #[.agg #[.int .i64 a0_0, .int .i64 a0_1, .int .i64 a0_2, .int .i64 a0_3, .slice A0_4 l0_4.length c0_4]] ?_; (with_reducible refine (impl_Fair_pick.calls kj3 a0_0 a0_1 a0_2 a0_3 _ _ l0_4 t247 _ ?side1 ?side2 A26.out).mono ?_); (case side1 => repeat (first | exact (Kd.C_below HR0_4.out HB.out) | (with_reducible refine Kd.C_alloc ?_ _) | (with_reducible refine Kd.C_drewN ?_ _) | (with_reducible refine Kd.C_drew ?_))); (case side2 => exact HC0_4.out); rintro e w69 ⟨rfl, hb⟩; refine ⟨_, rfl, ?_⟩; replace BK242 := bb_ BK242 hb; replace BK243 := bb_ BK243 hb; replace BK244 := bb_ BK244 hb; replace HB := Aside0.mk (below_step (bf_ HB) hb); (try clear hb); (try clear hb2); (try clear hk); (try clear hi); obtain ⟨hcz70_0, hcz70_1, hcz70_2, hcz70_3, hcz70_4, hfz70_0, hfz70_1, hfz70_2, hfz70_3, hfz70_4⟩ := bz5_ BK242) | ((with_reducible refine gc_ 62 rfl ?_); refine gl_ 28 Try.func62 #[.agg #[.int .i64 a0_0, .int .i64 a0_1, .int .i64 a0_2, .int .i64 a0_3, .slice A0_4 l0_4.length c0_4]] ?_; (with_reducible refine (impl_copyFair.calls a0_0 a0_1 a0_2 a0_3 _ _ l0_4 t248 t249 t250 t251 t252 _ ?side1 ?side2 A34.out).mono ?_); (case side1 => repeat (first | exact (Kd.C_below HR0_4.out HB.out) | (with_reducible refine Kd.C_alloc ?_ _) | (with_reducible refine Kd.C_drewN ?_ _) | (with_reducible refine Kd.C_drew ?_))); (case side2 => exact HC0_4.out); rintro e w71 ⟨v253, rfl, ho0, hb⟩; refine ⟨_, rfl, ?_⟩; have HO254 := Aside0.mk (Kd.R_lower ho0 (below_size (bf_ HB))); replace BK242 := bb_ BK242 hb; replace BK243 := bb_ BK243 hb; replace BK244 := bb_ BK244 hb; replace HB := Aside0.mk (below_step (bf_ HB) hb); (try clear hb); (try clear hb2); (try clear hk); (try clear hi); (try clear ho0)) | ((with_reducible refine gd_ 9 rfl ?_); refine bv_ 9 #[.int .i64 0, .int .i64 0, .int .i64 0, .int .i64 0, .slice none 0 0] 32 ?_; intro gb255 hg w72 hbox hb; replace HO254 := Aside0.mk (Kd.R_below (kr_ HO254) hb); have BK255 := Aside0.mk (hbox); have GW255 := gw_ HB hg; have GE255 := gw_ HB hg; replace HB := Aside0.mk (below_step (bf_ HB) hb); have NB242_255 := nl_ BK242 hg; have NB255_242 := ng_ BK242 hg; replace BK242 := bb_ BK242 hb; have NB243_255 := nl_ BK243 hg; have NB255_243 := ng_ BK243 hg; replace BK243 := bb_ BK243 hb; have NB244_255 := nl_ BK244 hg; have NB255_244 := ng_ BK244 hg; replace BK244 := bb_ BK244 hb; clear hb hbox hg; have hnb73 := NB255_242.out; have hnc73 := NB242_255.out; have hnb74 := NB255_243.out; have hnc74 := NB243_255.out; have hnb75 := NB255_244.out; have hnc75 := NB244_255.out; obtain ⟨hcz76_0, hcz76_1, hcz76_2, hcz76_3, hcz76_4, hfz76_0, hfz76_1, hfz76_2, hfz76_3, hfz76_4⟩ := bz5_ BK255; obtain ⟨Ao77, co77, eo77⟩ := Kd.R_slice HO254.out; subst eo77) | ((with_reducible refine gate_store (t := 32) (p := 9) rfl ?_); refine store_event (t := 32) (p := 9) (v := ?vo_w78) (w1 := (((((w72.setCell ⟨gb255, 0, none⟩ (.int .i64 t248)).setCell ⟨gb255, 1, none⟩ (.int .i64 t249)).setCell ⟨gb255, 2, none⟩ (.int .i64 t250)).setCell ⟨gb255, 3, none⟩ (.int .i64 t251)).setCell ⟨gb255, 4, none⟩ (.slice Ao77 t252.length co77))) ?hg ?ho ?hn ?hr ?_; (case ho => rfl); (case hg => rfl); (case hn => rfl); (case hr => first | (go_simp; done) | (go_simp; rfl)); intro w78 hw; have n0_ : Aside0 (Kd.R k38 38 w78 w.heap.size (fun _ => True) (.slice Ao77 t252.length co77) t252) := ⟨(by rw [hw]; exact (by (with_reducible repeat (first | apply Kd.R_alloc | apply Kd.R_drewN | apply Kd.R_drew)); exact Kd.R_mono (Kd.R_far (p := ⟨gb255, 4, none⟩) (Kd.R_far (p := ⟨gb255, 3, none⟩) (Kd.R_far (p := ⟨gb255, 2, none⟩) (Kd.R_far (p := ⟨gb255, 1, none⟩) (Kd.R_far (p := ⟨gb255, 0, none⟩) (Kd.R_types HO254.out BK255.out (by decide)) (fun _ hk => by first | exact hk.2 | grind) (.int .i64 t248)) (fun _ hk => by first | exact hk.2 | grind) (.int .i64 t249)) (fun _ hk => by first | exact hk.2 | grind) (.int .i64 t250)) (fun _ hk => by first | exact hk.2 | grind) (.int .i64 t251)) (fun _ hk => by first | exact hk.2 | grind) (.slice Ao77 t252.length co77)) (fun _ hk => by first | exact trivial | grind)))⟩; have n1_ : Aside0 (w78.heap[gb242]? = some (.cells #[.int .i64 a0_0, .int .i64 a0_1, .int .i64 a0_2, .int .i64 a0_3, .slice A0_4 l0_4.length c0_4] 32 (0, 0))) := ⟨(by rw [hw]; exact (bl_ BK242))⟩; have n2_ : Aside0 (w78.heap[gb243]? = some (.cells #[.int .i64 a1_0, .int .i64 a1_1, .int .i64 a1_2] 29 (0, 0))) := ⟨(by rw [hw]; exact (bl_ BK243))⟩; have n3_ : Aside0 (w78.heap[gb244]? = some (.cells #[.int .i64 0, .int .i64 0, .int .i64 0, .int .i64 0, .slice none 0 0] 32 (0, 0))) := ⟨(by rw [hw]; exact (bl_ BK244))⟩; have n4_ : Aside0 (w78.heap[gb255]? = some (.cells #[.int .i64 t248, .int .i64 t249, .int .i64 t250, .int .i64 t251, .slice Ao77 t252.length co77] 32 (0, 0))) := ⟨(by rw [hw]; exact (by (with_reducible repeat (first | refine blk_drewN ?_ _ | refine blk_drew ?_ | refine blk_alloc ?_ _)); refine blk_put (cs := #[.int .i64 t248, .int .i64 t249, .int .i64 t250, .int .i64 t251, .slice none 0 0]) ?_ 4 _ rfl; (with_reducible repeat (first | refine blk_drewN ?_ _ | refine blk_drew ?_ | refine blk_alloc ?_ _)); refine blk_put (cs := #[.int .i64 t248, .int .i64 t249, .int .i64 t250, .int .i64 0, .slice none 0 0]) ?_ 3 _ rfl; (with_reducible repeat (first | refine blk_drewN ?_ _ | refine blk_drew ?_ | refine blk_alloc ?_ _)); refine blk_put (cs := #[.int .i64 t248, .int .i64 t249, .int .i64 0, .int .i64 0, .slice none 0 0]) ?_ 2 _ rfl; (with_reducible repeat (first | refine blk_drewN ?_ _ | refine blk_drew ?_ | refine blk_alloc ?_ _)); refine blk_put (cs := #[.int .i64 t248, .int .i64 0, .int .i64 0, .int .i64 0, .slice none 0 0]) ?_ 1 _ rfl; (with_reducible repeat (first | refine blk_drewN ?_ _ | refine blk_drew ?_ | refine blk_alloc ?_ _)); refine blk_put (cs := #[.int .i64 0, .int .i64 0, .int .i64 0, .int .i64 0, .slice none 0 0]) ?_ 0 _ rfl; exact bk_ BK255))⟩; have n5_ : Aside0 (Below w.heap.size w w78) := ⟨(by rw [hw]; exact (bf_ HB))⟩; clear hw HO254 BK242 BK243 BK244 BK255 HB; have HO254 := n0_; have BK242 := n1_; have BK243 := n2_; have BK244 := n3_; have BK255 := n4_; have HB := n5_; clear n0_ n1_ n2_ n3_ n4_ n5_; obtain ⟨hcz79_0, hcz79_1, hcz79_2, hcz79_3, hcz79_4, hfz79_0, hfz79_1, hfz79_2, hfz79_3, hfz79_4⟩ := bz5_ BK255; have p37 : 0 ≤ (t247 : Int) := od_; have q37 : (t247 : Int) < ((t252.length : Int) : Int) := od_; obtain ⟨go37, co37, eo37, gb37, gl37, cl37, HG37⟩ := Kd.R_form HO254.out (by omega); (first | cases eo37 | (injection eo37 with ea_ en_ ec_; (first | subst ea_ | (injection ea_ with ea_; subst ea_)); subst ec_; clear en_)); have GB37 := Aside0.mk gb37; have GG37 := Aside0.mk HG37; clear gb37 gl37 HG37; obtain ⟨ce37, hcl37, hM37, hcc37, hfr37⟩ := Kd.R_elem HO254.out z38 (t247 : Int) p37 q37; obtain rfl := k38_openM hM37; have hx37_0 : w78.cell? ⟨go37, (t247 : Int).toNat * 6, none⟩ = some (.int .i64 ((rd_T38 t252 t247).f0)) := hcc37 0 _ rfl; have hx37_1 : w78.cell? ⟨go37, (t247 : Int).toNat * 6 + 1, none⟩ = some (.int .i64 ((rd_T38 t252 t247).f1)) := hcc37 1 _ rfl; have hx37_2 : w78.cell? ⟨go37, (t247 : Int).toNat * 6 + 2, none⟩ = some (.bool ((rd_T38 t252 t247).f2)) := hcc37 2 _ rfl; have hx37_3 : w78.cell? ⟨go37, (t247 : Int).toNat * 6 + 3, none⟩ = some (.int .i64 ((rd_T38 t252 t247).f3.f0)) := hcc37 3 _ rfl; have hx37_4 : w78.cell? ⟨go37, (t247 : Int).toNat * 6 + 4, none⟩ = some (.int .i64 ((rd_T38 t252 t247).f3.f1)) := hcc37 4 _ rfl; have hx37_5 : w78.cell? ⟨go37, (t247 : Int).toNat * 6 + 5, none⟩ = some (.int .i64 ((rd_T38 t252 t247).f3.f2)) := hcc37 5 _ rfl; have hf37_0 : w78.frozen? ⟨go37, (t247 : Int).toNat * 6, none⟩ = false := hfr37 0; have hf37_1 : w78.frozen? ⟨go37, (t247 : Int).toNat * 6 + 1, none⟩ = false := hfr37 1; have hf37_2 : w78.frozen? ⟨go37, (t247 : Int).toNat * 6 + 2, none⟩ = false := hfr37 2; have hf37_3 : w78.frozen? ⟨go37, (t247 : Int).toNat * 6 + 3, none⟩ = false := hfr37 3; have hf37_4 : w78.frozen? ⟨go37, (t247 : Int).toNat * 6 + 4, none⟩ = false := hfr37 4; have hf37_5 : w78.frozen? ⟨go37, (t247 : Int).toNat * 6 + 5, none⟩ = false := hfr37 5; clear hcl37 hcc37 hfr37 hM37; replace p37 := eq_true p37; replace q37 := eq_true q37))
        replace HO254 := Aside0.mk (Kd.R_drew HO254.out); replace BK242 := Aside0.mk (blk_drew BK242.out); replace BK243 := Aside0.mk (blk_drew BK243.out); replace BK244 := Aside0.mk (blk_drew BK244.out); replace BK255 := Aside0.mk (blk_drew BK255.out); replace HB := Aside0.mk (below_drew1 HB.out)
        have p256 : 0 ≤ (t247 : Int) := od_
        have q256 : t247 < (t252.length : Int) := od_
        obtain ⟨ad256, e256, hx256_0, hx256_1, hx256_2, hx256_3, hx256_4, hx256_5⟩ := at_T38 (Kd.R_reads' HO254.out).2.2 t247 p256 q256
        obtain rfl : (⟨go37, 0, none⟩ : Addr) = ad256 := (by injection e256)
        (first | simp only [add_plain] at hx256_0 | simp only [add_at] at hx256_0 | simp only [Addr.add, Nat.zero_add] at hx256_0 | skip)
        (first | simp only [add_plain] at hx256_1 | simp only [add_at] at hx256_1 | simp only [Addr.add, Nat.zero_add] at hx256_1 | skip)
        (first | simp only [add_plain] at hx256_2 | simp only [add_at] at hx256_2 | simp only [Addr.add, Nat.zero_add] at hx256_2 | skip)
        (first | simp only [add_plain] at hx256_3 | simp only [add_at] at hx256_3 | simp only [Addr.add, Nat.zero_add] at hx256_3 | skip)
        (first | simp only [add_plain] at hx256_4 | simp only [add_at] at hx256_4 | simp only [Addr.add, Nat.zero_add] at hx256_4 | skip)
        (first | simp only [add_plain] at hx256_5 | simp only [add_at] at hx256_5 | simp only [Addr.add, Nat.zero_add] at hx256_5 | skip)
        replace p256 := eq_true p256
        replace q256 := eq_true q256
        refine start_ (n := 9) (S := fun w' => cw_ w' gb242 0 (.int .i64 a0_0) ∧ cw_ w' gb242 1 (.int .i64 a0_1) ∧ cw_ w' gb242 2 (.int .i64 a0_2) ∧ cw_ w' gb242 3 (.int .i64 a0_3) ∧ cw_ w' gb242 4 (.slice A0_4 l0_4.length c0_4) ∧ w'.cell? ⟨go37, (t247).toNat * 6, none⟩ = some (.int .i64 ((rd_T38 t252 t247).f0)) ∧ w'.cell? ⟨go37, (t247).toNat * 6 + 1, none⟩ = some (.int .i64 ((rd_T38 t252 t247).f1)) ∧ w'.cell? ⟨go37, (t247).toNat * 6 + 2, none⟩ = some (.bool ((rd_T38 t252 t247).f2)) ∧ w'.cell? ⟨go37, (t247).toNat * 6 + 3, none⟩ = some (.int .i64 ((rd_T38 t252 t247).f3.f0)) ∧ w'.cell? ⟨go37, (t247).toNat * 6 + 4, none⟩ = some (.int .i64 ((rd_T38 t252 t247).f3.f1)) ∧ w'.cell? ⟨go37, (t247).toNat * 6 + 5, none⟩ = some (.int .i64 ((rd_T38 t252 t247).f3.f2))) (ds := []) (bs 9 0) (by kernel_rfl) rfl rfl ⟨bt_ BK242 0, bt_ BK242 1, bt_ BK242 2, bt_ BK242 3, bt_ BK242 4, hx256_0, hx256_1, hx256_2, hx256_3, hx256_4, hx256_5⟩ (fun hHeld => ?_); refine with_tabW impl_FairServe.tab8 impl_FairServe.bits8 (fun HT_ HW_ => ?_)
        generalize w78.drew = w80 at HO254 BK242 BK243 BK244 BK255 HB hx256_0 hx256_1 hx256_2 hx256_3 hx256_4 hx256_5 hHeld ⊢
        refine ps_ 0 33 (bs 9 1) HT_ ?_
        refine ps_ 2 35 (bm 9 5) HT_ ?_
        refine ps_ 3 36 (bm 9 13) HT_ ?_
        refine ps_ 4 37 (bm 9 29) HT_ ?_
        refine tk_ 1 34 (bs 9 5) HT_ HW_ hHeld ?_
        refine tk_ 5 38 (bs 9 6) HT_ HW_ hHeld ?_
        refine on_ 6 (some 39) (bs 9 7) HT_ (fun K hK => ?_)
        refine gs_ Try.func69 #[.agg #[.int .i64 a0_1, .int .i64 a0_2, .int .i64 a0_3], .agg #[.int .i64 ((rd_T38 t252 t247).f3.f0), .int .i64 ((rd_T38 t252 t247).f3.f1), .int .i64 ((rd_T38 t252 t247).f3.f2)]] ?_
        with_reducible refine (impl_VecMost.calls a0_1 a0_2 a0_3 ((rd_T38 t252 t247).f3.f0) ((rd_T38 t252 t247).f3.f1) ((rd_T38 t252 t247).f3.f2) t257 t258 t259 _ A38.out).mono ?_
        rintro e w81 ⟨rfl, hb⟩
        have HS5_ := hc_ hb hHeld.2.2.2.2.2.1
        have HS6_ := hc_ hb hHeld.2.2.2.2.2.2.1
        have HS7_ := hc_ hb hHeld.2.2.2.2.2.2.2.1
        have HS8_ := hc_ hb hHeld.2.2.2.2.2.2.2.2.1
        have HS9_ := hc_ hb hHeld.2.2.2.2.2.2.2.2.2.1
        have HS10_ := hc_ hb hHeld.2.2.2.2.2.2.2.2.2.2
        refine ⟨_, rfl, ?_⟩
        replace HO254 := Aside0.mk (Kd.R_below (kr_ HO254) hb); replace BK242 := bb_ BK242 hb; replace BK243 := bb_ BK243 hb; replace BK244 := bb_ BK244 hb; replace BK255 := bb_ BK255 hb; replace HB := Aside0.mk (below_step (bf_ HB) hb); (try clear hb); (try clear hb2); (try clear hk); (try clear hi)
        refine hK.out _ _ ⟨bt_ BK242 0, bt_ BK242 1, bt_ BK242 2, bt_ BK242 3, bt_ BK242 4, HS5_, HS6_, HS7_, HS8_, HS9_, HS10_⟩ (fun hHeld => ?_)
        clear hK K
        refine norm_ (a' := ?_) ?_ ?_
        rotate_left
        ·show Act.put _ (some 39) _ = _
         simp only [Act.put, ls0_, ls1_, ls2_, i64_w, i32_w]
         rfl
        refine ps_ 7 40 (bs 9 8) HT_ ?_
        refine on_ 8 none (bs 9 9) HT_ (fun K hK => ?_)
        have hs82 := bc_ BK255 1 (.int .i64 t249) rfl; have hfs82 := blk_frozen BK255.out 1; have hns82_0 := NB242_255.out; have hns82_1 := NB243_255.out; have hns82_2 := NB244_255.out; have hms82_0 := NB255_242.out; have hms82_1 := NB255_243.out; have hms82_2 := NB255_244.out; have hs83 := bc_ BK255 2 (.int .i64 t250) rfl; have hfs83 := blk_frozen BK255.out 2; have hns83_0 := NB242_255.out; have hns83_1 := NB243_255.out; have hns83_2 := NB244_255.out; have hms83_0 := NB255_242.out; have hms83_1 := NB255_243.out; have hms83_2 := NB255_244.out; have hs84 := bc_ BK255 3 (.int .i64 t251) rfl; have hfs84 := blk_frozen BK255.out 3; have hns84_0 := NB242_255.out; have hns84_1 := NB243_255.out; have hns84_2 := NB244_255.out; have hms84_0 := NB255_242.out; have hms84_1 := NB255_243.out; have hms84_2 := NB255_244.out
        refine skip_ (w1 := ?_) (by rfl) rfl ?_ ?_
        rotate_left
        ·go_simp
         rfl
        refine hK.out _ _ ⟨(cf3_ NB242_255.out hHeld.1), (cf3_ NB242_255.out hHeld.2.1), (cf3_ NB242_255.out hHeld.2.2.1), (cf3_ NB242_255.out hHeld.2.2.2.1), (cf3_ NB242_255.out hHeld.2.2.2.2.1), (cf3_ (ab_ (Kd.own_blk (Kd.R_ne HO254.out BK255.out (by decide)))) hHeld.2.2.2.2.2.1), (cf3_ (ab_ (Kd.own_blk (Kd.R_ne HO254.out BK255.out (by decide)))) hHeld.2.2.2.2.2.2.1), (cf3_ (ab_ (Kd.own_blk (Kd.R_ne HO254.out BK255.out (by decide)))) hHeld.2.2.2.2.2.2.2.1), (cf3_ (ab_ (Kd.own_blk (Kd.R_ne HO254.out BK255.out (by decide)))) hHeld.2.2.2.2.2.2.2.2.1), (cf3_ (ab_ (Kd.own_blk (Kd.R_ne HO254.out BK255.out (by decide)))) hHeld.2.2.2.2.2.2.2.2.2.1), (cf3_ (ab_ (Kd.own_blk (Kd.R_ne HO254.out BK255.out (by decide)))) hHeld.2.2.2.2.2.2.2.2.2.2)⟩ (fun hHeld => ?_)
        clear hK K
        refine done_ (done_of HT_.out (by kernel_rfl)) ?_
        have hcz85_0 := bc_ BK255 0 (.int .i64 t248) rfl; have hcz85_1 := bc_ BK255 1 (.int .i64 t249) rfl; have hcz85_2 := bc_ BK255 2 (.int .i64 t250) rfl; have hcz85_3 := bc_ BK255 3 (.int .i64 t251) rfl
        have hcz85_4 := bc_ BK255 4 (.slice (some ⟨go37, 0, none⟩) t252.length co77) rfl
        have hfz85_0 := blk_frozen BK255.out 0; have hfz85_1 := blk_frozen BK255.out 1; have hfz85_2 := blk_frozen BK255.out 2; have hfz85_3 := blk_frozen BK255.out 3; have hfz85_4 := blk_frozen BK255.out 4
        try go_wp2_with (first | ((with_reducible refine gc_ 52 rfl ?_); refine gl_ 43 Try.func52 #[.agg #[.int .i64 t257, .int .i64 t258, .int .i64 t259]] ?_; (with_reducible refine (impl_VecTop.calls t257 t258 t259 t260 _ A39.out).mono ?_); rintro e w86 ⟨rfl, hb⟩; refine ⟨_, rfl, ?_⟩; replace HO254 := Aside0.mk (Kd.R_below (by (with_reducible repeat (first | apply Kd.R_alloc | apply Kd.R_drewN | apply Kd.R_drew)); exact (Kd.R_mono (Kd.R_far (p := ⟨gb255, 3, none⟩) (Kd.R_far (p := ⟨gb255, 2, none⟩) (Kd.R_far (p := ⟨gb255, 1, none⟩) (Kd.R_types HO254.out BK255.out (by decide)) (fun _ hk => by first | exact hk.2 | grind) (.int .i64 t257)) (fun _ hk => by first | exact hk.2 | grind) (.int .i64 t258)) (fun _ hk => by first | exact hk.2 | grind) (.int .i64 t259)) (fun _ h_ => h_.1))) hb); replace BK242 := bm_ BK242 hb; replace BK243 := bm_ BK243 hb; replace BK244 := bm_ BK244 hb; replace BK255 := Aside0.mk (blk_below (g := gb255) (o := .cells #[.int .i64 t248, .int .i64 t257, .int .i64 t258, .int .i64 t259, .slice (some ⟨go37, 0, none⟩) t252.length co77] 32 (0, 0)) (by (with_reducible repeat (first | refine blk_drewN ?_ _ | refine blk_drew ?_ | refine blk_alloc ?_ _)); refine blk_put (cs := #[.int .i64 t248, .int .i64 t257, .int .i64 t258, .int .i64 t251, .slice (some ⟨go37, 0, none⟩) t252.length co77]) ?_ 3 _ rfl; (with_reducible repeat (first | refine blk_drewN ?_ _ | refine blk_drew ?_ | refine blk_alloc ?_ _)); refine blk_put (cs := #[.int .i64 t248, .int .i64 t257, .int .i64 t250, .int .i64 t251, .slice (some ⟨go37, 0, none⟩) t252.length co77]) ?_ 2 _ rfl; (with_reducible repeat (first | refine blk_drewN ?_ _ | refine blk_drew ?_ | refine blk_alloc ?_ _)); refine blk_put (cs := #[.int .i64 t248, .int .i64 t249, .int .i64 t250, .int .i64 t251, .slice (some ⟨go37, 0, none⟩) t252.length co77]) ?_ 1 _ rfl; exact bk_ BK255) hb); replace HB := Aside0.mk (below_step (bf_ HB) hb); (try clear hb); (try clear hb2); (try clear hk); (try clear hi)))
        replace HO254 := Aside0.mk (Kd.R_drew HO254.out); replace BK242 := Aside0.mk (blk_drew BK242.out); replace BK243 := Aside0.mk (blk_drew BK243.out); replace BK244 := Aside0.mk (blk_drew BK244.out); replace BK255 := Aside0.mk (blk_drew BK255.out); replace HB := Aside0.mk (below_drew1 HB.out)
        have p261 : 0 ≤ (t247 : Int) := od_
        have q261 : t247 < (t252.length : Int) := od_
        obtain ⟨ad261, e261, hx261_0, hx261_1, hx261_2, hx261_3, hx261_4, hx261_5⟩ := at_T38 (Kd.R_reads' HO254.out).2.2 t247 p261 q261
        obtain rfl : (⟨go37, 0, none⟩ : Addr) = ad261 := (by injection e261)
        (first | simp only [add_plain] at hx261_0 | simp only [add_at] at hx261_0 | simp only [Addr.add, Nat.zero_add] at hx261_0 | skip)
        (first | simp only [add_plain] at hx261_1 | simp only [add_at] at hx261_1 | simp only [Addr.add, Nat.zero_add] at hx261_1 | skip)
        (first | simp only [add_plain] at hx261_2 | simp only [add_at] at hx261_2 | simp only [Addr.add, Nat.zero_add] at hx261_2 | skip)
        (first | simp only [add_plain] at hx261_3 | simp only [add_at] at hx261_3 | simp only [Addr.add, Nat.zero_add] at hx261_3 | skip)
        (first | simp only [add_plain] at hx261_4 | simp only [add_at] at hx261_4 | simp only [Addr.add, Nat.zero_add] at hx261_4 | skip)
        (first | simp only [add_plain] at hx261_5 | simp only [add_at] at hx261_5 | simp only [Addr.add, Nat.zero_add] at hx261_5 | skip)
        replace p261 := eq_true p261
        replace q261 := eq_true q261
        have p262 : 0 ≤ (t247 : Int) := od_
        have q262 : t247 < (t252.length : Int) := od_
        obtain ⟨ad262, e262, hx262_0, hx262_1, hx262_2, hx262_3, hx262_4, hx262_5⟩ := at_T38 (Kd.R_reads' HO254.out).2.2 t247 p262 q262
        obtain rfl : (⟨go37, 0, none⟩ : Addr) = ad262 := (by injection e262)
        (first | simp only [add_plain] at hx262_0 | simp only [add_at] at hx262_0 | simp only [Addr.add, Nat.zero_add] at hx262_0 | skip)
        (first | simp only [add_plain] at hx262_1 | simp only [add_at] at hx262_1 | simp only [Addr.add, Nat.zero_add] at hx262_1 | skip)
        (first | simp only [add_plain] at hx262_2 | simp only [add_at] at hx262_2 | simp only [Addr.add, Nat.zero_add] at hx262_2 | skip)
        (first | simp only [add_plain] at hx262_3 | simp only [add_at] at hx262_3 | simp only [Addr.add, Nat.zero_add] at hx262_3 | skip)
        (first | simp only [add_plain] at hx262_4 | simp only [add_at] at hx262_4 | simp only [Addr.add, Nat.zero_add] at hx262_4 | skip)
        (first | simp only [add_plain] at hx262_5 | simp only [add_at] at hx262_5 | simp only [Addr.add, Nat.zero_add] at hx262_5 | skip)
        replace p262 := eq_true p262
        replace q262 := eq_true q262
        refine start_ (n := 16) (S := fun w' => cw_ w' gb243 0 (.int .i64 a1_0) ∧ cw_ w' gb243 1 (.int .i64 a1_1) ∧ cw_ w' gb243 2 (.int .i64 a1_2) ∧ w'.cell? ⟨go37, (t247).toNat * 6, none⟩ = some (.int .i64 ((rd_T38 t252 t247).f0)) ∧ w'.cell? ⟨go37, (t247).toNat * 6 + 1, none⟩ = some (.int .i64 ((rd_T38 t252 t247).f1)) ∧ w'.cell? ⟨go37, (t247).toNat * 6 + 2, none⟩ = some (.bool ((rd_T38 t252 t247).f2)) ∧ w'.cell? ⟨go37, (t247).toNat * 6 + 3, none⟩ = some (.int .i64 ((rd_T38 t252 t247).f3.f0)) ∧ w'.cell? ⟨go37, (t247).toNat * 6 + 4, none⟩ = some (.int .i64 ((rd_T38 t252 t247).f3.f1)) ∧ w'.cell? ⟨go37, (t247).toNat * 6 + 5, none⟩ = some (.int .i64 ((rd_T38 t252 t247).f3.f2)) ∧ w'.cell? ⟨go37, (t247).toNat * 6, none⟩ = some (.int .i64 ((rd_T38 t252 t247).f0)) ∧ w'.cell? ⟨go37, (t247).toNat * 6 + 1, none⟩ = some (.int .i64 ((rd_T38 t252 t247).f1)) ∧ w'.cell? ⟨go37, (t247).toNat * 6 + 2, none⟩ = some (.bool ((rd_T38 t252 t247).f2)) ∧ w'.cell? ⟨go37, (t247).toNat * 6 + 3, none⟩ = some (.int .i64 ((rd_T38 t252 t247).f3.f0)) ∧ w'.cell? ⟨go37, (t247).toNat * 6 + 4, none⟩ = some (.int .i64 ((rd_T38 t252 t247).f3.f1)) ∧ w'.cell? ⟨go37, (t247).toNat * 6 + 5, none⟩ = some (.int .i64 ((rd_T38 t252 t247).f3.f2))) (ds := []) (bs 16 0) (by kernel_rfl) rfl rfl ⟨bt_ BK243 0, bt_ BK243 1, bt_ BK243 2, hx261_0, hx261_1, hx261_2, hx261_3, hx261_4, hx261_5, hx262_0, hx262_1, hx262_2, hx262_3, hx262_4, hx262_5⟩ (fun hHeld => ?_); refine with_tabW impl_FairServe.tab11 impl_FairServe.bits11 (fun HT_ HW_ => ?_)
        generalize w86.drew = w87 at HO254 BK242 BK243 BK244 BK255 HB hx261_0 hx261_1 hx261_2 hx261_3 hx261_4 hx261_5 hx262_0 hx262_1 hx262_2 hx262_3 hx262_4 hx262_5 hHeld ⊢
        refine ps_ 0 47 (bs 16 1) HT_ ?_
        refine ps_ 1 48 (bs 16 2) HT_ ?_
        refine ps_ 2 49 (bs 16 3) HT_ ?_
        refine ps_ 5 52 (bm 16 39) HT_ ?_
        refine ps_ 6 53 (bm 16 103) HT_ ?_
        refine ps_ 7 54 (bm 16 231) HT_ ?_
        refine tk_ 3 50 (bm 16 239) HT_ HW_ hHeld ?_
        refine tk_ 4 51 (bs 16 8) HT_ HW_ hHeld ?_
        refine tk_ 8 55 (bs 16 9) HT_ HW_ hHeld ?_
        refine join_ (σ := Nat) 2 (bs 16 14) (fun s_ => [(56, .tuple #[.agg #[.int .i64 t263, .int .i64 t264, .int .i64 t265], .bool t266]), (11, .pointer (some ⟨s_, 0, none⟩)), (46, .tuple #[.agg #[.int .i64 t263, .int .i64 t264, .int .i64 t265], .bool t266]), (57, .agg #[.int .i64 t263, .int .i64 t264, .int .i64 t265]), (58, .bool t266)]) (fun s_ w' => (w'.cell? ⟨gb243, 0, none⟩ = some (.int .i64 a1_0) ∧ w'.cell? ⟨gb243, 1, none⟩ = some (.int .i64 a1_1) ∧ w'.cell? ⟨gb243, 2, none⟩ = some (.int .i64 a1_2) ∧ w'.cell? ⟨go37, (t247).toNat * 6, none⟩ = some (.int .i64 ((rd_T38 t252 t247).f0)) ∧ w'.cell? ⟨go37, (t247).toNat * 6 + 1, none⟩ = some (.int .i64 ((rd_T38 t252 t247).f1)) ∧ w'.cell? ⟨go37, (t247).toNat * 6 + 2, none⟩ = some (.bool ((rd_T38 t252 t247).f2)) ∧ w'.cell? ⟨go37, (t247).toNat * 6 + 3, none⟩ = some (.int .i64 ((rd_T38 t252 t247).f3.f0)) ∧ w'.cell? ⟨go37, (t247).toNat * 6 + 4, none⟩ = some (.int .i64 ((rd_T38 t252 t247).f3.f1)) ∧ w'.cell? ⟨go37, (t247).toNat * 6 + 5, none⟩ = some (.int .i64 ((rd_T38 t252 t247).f3.f2)) ∧ w'.cell? ⟨go37, (t247).toNat * 6, none⟩ = some (.int .i64 ((rd_T38 t252 t247).f0)) ∧ w'.cell? ⟨go37, (t247).toNat * 6 + 1, none⟩ = some (.int .i64 ((rd_T38 t252 t247).f1)) ∧ w'.cell? ⟨go37, (t247).toNat * 6 + 2, none⟩ = some (.bool ((rd_T38 t252 t247).f2)) ∧ w'.cell? ⟨go37, (t247).toNat * 6 + 3, none⟩ = some (.int .i64 ((rd_T38 t252 t247).f3.f0)) ∧ w'.cell? ⟨go37, (t247).toNat * 6 + 4, none⟩ = some (.int .i64 ((rd_T38 t252 t247).f3.f1)) ∧ w'.cell? ⟨go37, (t247).toNat * 6 + 5, none⟩ = some (.int .i64 ((rd_T38 t252 t247).f3.f2))) ∧ (Kd.R k38 38 w' w.heap.size (fun _ => True) (.slice (some ⟨go37, 0, none⟩) t252.length co77) t252) ∧ (w'.heap[gb242]? = some (.cells #[.int .i64 a0_0, .int .i64 a0_1, .int .i64 a0_2, .int .i64 a0_3, .slice A0_4 l0_4.length c0_4] 32 (0, 0))) ∧ (w'.heap[gb243]? = some (.cells #[.int .i64 a1_0, .int .i64 a1_1, .int .i64 a1_2] 29 (0, 0))) ∧ (w'.heap[gb244]? = some (.cells #[.int .i64 0, .int .i64 0, .int .i64 0, .int .i64 0, .slice none 0 0] 32 (0, 0))) ∧ (w'.heap[gb255]? = some (.cells #[.int .i64 t248, .int .i64 t257, .int .i64 t258, .int .i64 t259, .slice (some ⟨go37, 0, none⟩) t252.length co77] 32 (0, 0))) ∧ (w'.heap[s_]? = some (.cells #[.int .i64 0, .int .i64 0, .int .i64 0] 29 (0, 0))) ∧ (w.heap.size ≤ s_) ∧ (w.heap.size ≤ s_) ∧ (gb242 ≠ s_) ∧ (s_ ≠ gb242) ∧ (gb243 ≠ s_) ∧ (s_ ≠ gb243) ∧ (gb244 ≠ s_) ∧ (s_ ≠ gb244) ∧ (gb255 ≠ s_) ∧ (s_ ≠ gb255) ∧ (Below w.heap.size w w')) ?_ ?_
        rotate_left
        ·intro hCont
         refine two_ (i := 9) (j := 13) (Ni := some 56) (Nj := some 11) (bs 16 10) (bm 16 8703) rfl rfl rfl rfl (two_of HT_.out (by kernel_rfl)) (by decide) (by decide) (fun K hK => ?_) (fun K hK => ?_)
         ·skip
          refine gs_ Try.func75 #[.agg #[.int .i64 ((rd_T38 t252 t247).f3.f0), .int .i64 ((rd_T38 t252 t247).f3.f1), .int .i64 ((rd_T38 t252 t247).f3.f2)], .agg #[.int .i64 a1_0, .int .i64 a1_1, .int .i64 a1_2], .int .i64 ((rd_T38 t252 t247).f1)] ?_
          with_reducible refine (impl_Finish.calls kj3 ((rd_T38 t252 t247).f3.f0) ((rd_T38 t252 t247).f3.f1) ((rd_T38 t252 t247).f3.f2) a1_0 a1_1 a1_2 ((rd_T38 t252 t247).f1) t263 t264 t265 t266 _ A64.out).mono ?_
          rintro e w88 ⟨rfl, hb⟩
          have HS3_ := hc_ hb hHeld.2.2.2.1
          have HS4_ := hc_ hb hHeld.2.2.2.2.1
          have HS5_ := hc_ hb hHeld.2.2.2.2.2.1
          have HS6_ := hc_ hb hHeld.2.2.2.2.2.2.1
          have HS7_ := hc_ hb hHeld.2.2.2.2.2.2.2.1
          have HS8_ := hc_ hb hHeld.2.2.2.2.2.2.2.2.1
          have HS9_ := hc_ hb hHeld.2.2.2.2.2.2.2.2.2.1
          have HS10_ := hc_ hb hHeld.2.2.2.2.2.2.2.2.2.2.1
          have HS11_ := hc_ hb hHeld.2.2.2.2.2.2.2.2.2.2.2.1
          have HS12_ := hc_ hb hHeld.2.2.2.2.2.2.2.2.2.2.2.2.1
          have HS13_ := hc_ hb hHeld.2.2.2.2.2.2.2.2.2.2.2.2.2.1
          have HS14_ := hc_ hb hHeld.2.2.2.2.2.2.2.2.2.2.2.2.2.2
          refine ⟨_, rfl, ?_⟩
          replace HO254 := Aside0.mk (Kd.R_below (kr_ HO254) hb); replace BK242 := bb_ BK242 hb; replace BK243 := bb_ BK243 hb; replace BK244 := bb_ BK244 hb; replace BK255 := bb_ BK255 hb; replace HB := Aside0.mk (below_step (bf_ HB) hb); (try clear hb); (try clear hb2); (try clear hk); (try clear hi)
          refine hK.out _ _ ⟨bt_ BK243 0, bt_ BK243 1, bt_ BK243 2, HS3_, HS4_, HS5_, HS6_, HS7_, HS8_, HS9_, HS10_, HS11_, HS12_, HS13_, HS14_⟩ (fun hHeld => ?_)
          clear hK K
          refine norm_ (a' := ?_) ?_ ?_
          rotate_left
          ·show Act.put _ (some 56) _ = _
           simp only [Act.put, ls0_, ls1_, ls2_, i64_w, i32_w]
           rfl
          refine ps_ 10 46 (bs 16 11) HT_ ?_
          refine ps_ 11 57 (bs 16 12) HT_ ?_
          refine ps_ 12 58 (bs 16 13) HT_ ?_
          refine on_ 13 (some 11) (bs 16 14) HT_ (fun K hK => ?_)
          refine box_step ?hg (N := 11) ?hd (cs := #[.int .i64 0, .int .i64 0, .int .i64 0]) (t := 29) ?hr ?_; (case hd => rfl); (case hg => rfl); (case hr => first | (go_simp; done) | (go_simp; rfl))
          intro gb267 hg w89 hbox hb
          have HS3_ := hc_ hb hHeld.2.2.2.1
          have HS4_ := hc_ hb hHeld.2.2.2.2.1
          have HS5_ := hc_ hb hHeld.2.2.2.2.2.1
          have HS6_ := hc_ hb hHeld.2.2.2.2.2.2.1
          have HS7_ := hc_ hb hHeld.2.2.2.2.2.2.2.1
          have HS8_ := hc_ hb hHeld.2.2.2.2.2.2.2.2.1
          have HS9_ := hc_ hb hHeld.2.2.2.2.2.2.2.2.2.1
          have HS10_ := hc_ hb hHeld.2.2.2.2.2.2.2.2.2.2.1
          have HS11_ := hc_ hb hHeld.2.2.2.2.2.2.2.2.2.2.2.1
          have HS12_ := hc_ hb hHeld.2.2.2.2.2.2.2.2.2.2.2.2.1
          have HS13_ := hc_ hb hHeld.2.2.2.2.2.2.2.2.2.2.2.2.2.1
          have HS14_ := hc_ hb hHeld.2.2.2.2.2.2.2.2.2.2.2.2.2.2
          replace HO254 := Aside0.mk (Kd.R_below (kr_ HO254) hb); have BK267 := Aside0.mk (hbox); have GW267 := gw_ HB hg; have GE267 := gw_ HB hg; replace HB := Aside0.mk (below_step (bf_ HB) hb); have NB242_267 := nl_ BK242 hg; have NB267_242 := ng_ BK242 hg; replace BK242 := bb_ BK242 hb; have NB243_267 := nl_ BK243 hg; have NB267_243 := ng_ BK243 hg; replace BK243 := bb_ BK243 hb; have NB244_267 := nl_ BK244 hg; have NB267_244 := ng_ BK244 hg; replace BK244 := bb_ BK244 hb; have NB255_267 := nl_ BK255 hg; have NB267_255 := ng_ BK255 hg; replace BK255 := bb_ BK255 hb; clear hb hbox hg
          refine hK.out _ _ ⟨bt_ BK243 0, bt_ BK243 1, bt_ BK243 2, HS3_, HS4_, HS5_, HS6_, HS7_, HS8_, HS9_, HS10_, HS11_, HS12_, HS13_, HS14_⟩ (fun hHeld => ?_)
          clear hK K
          refine norm_ (a' := ?_) ?_ ?_
          rotate_left
          ·show Act.put _ (some 11) _ = _
           simp only [Act.put, ls0_, ls1_, ls2_, i64_w, i32_w]
           rfl
          exact norm_ (by simp only [putAll, Act.put, ls0_, ls1_, ls2_]) (hCont (gb267) _ ⟨hHeld, (kr_ HO254), (bk_ BK242), (bk_ BK243), (bk_ BK244), (bk_ BK255), (bk_ BK267), GW267.out, GE267.out, NB242_267.out, NB267_242.out, NB243_267.out, NB267_243.out, NB244_267.out, NB267_244.out, NB255_267.out, NB267_255.out, (bf_ HB)⟩)
         ·skip
          refine box_step ?hg (N := 11) ?hd (cs := #[.int .i64 0, .int .i64 0, .int .i64 0]) (t := 29) ?hr ?_; (case hd => rfl); (case hg => rfl); (case hr => first | (go_simp; done) | (go_simp; rfl))
          intro gb267 hg w88 hbox hb
          have HS3_ := hc_ hb hHeld.2.2.2.1
          have HS4_ := hc_ hb hHeld.2.2.2.2.1
          have HS5_ := hc_ hb hHeld.2.2.2.2.2.1
          have HS6_ := hc_ hb hHeld.2.2.2.2.2.2.1
          have HS7_ := hc_ hb hHeld.2.2.2.2.2.2.2.1
          have HS8_ := hc_ hb hHeld.2.2.2.2.2.2.2.2.1
          have HS9_ := hc_ hb hHeld.2.2.2.2.2.2.2.2.2.1
          have HS10_ := hc_ hb hHeld.2.2.2.2.2.2.2.2.2.2.1
          have HS11_ := hc_ hb hHeld.2.2.2.2.2.2.2.2.2.2.2.1
          have HS12_ := hc_ hb hHeld.2.2.2.2.2.2.2.2.2.2.2.2.1
          have HS13_ := hc_ hb hHeld.2.2.2.2.2.2.2.2.2.2.2.2.2.1
          have HS14_ := hc_ hb hHeld.2.2.2.2.2.2.2.2.2.2.2.2.2.2
          replace HO254 := Aside0.mk (Kd.R_below (kr_ HO254) hb); have BK267 := Aside0.mk (hbox); have GW267 := gw_ HB hg; have GE267 := gw_ HB hg; replace HB := Aside0.mk (below_step (bf_ HB) hb); have NB242_267 := nl_ BK242 hg; have NB267_242 := ng_ BK242 hg; replace BK242 := bb_ BK242 hb; have NB243_267 := nl_ BK243 hg; have NB267_243 := ng_ BK243 hg; replace BK243 := bb_ BK243 hb; have NB244_267 := nl_ BK244 hg; have NB267_244 := ng_ BK244 hg; replace BK244 := bb_ BK244 hb; have NB255_267 := nl_ BK255 hg; have NB267_255 := ng_ BK255 hg; replace BK255 := bb_ BK255 hb; clear hb hbox hg
          refine hK.out _ _ ⟨bt_ BK243 0, bt_ BK243 1, bt_ BK243 2, HS3_, HS4_, HS5_, HS6_, HS7_, HS8_, HS9_, HS10_, HS11_, HS12_, HS13_, HS14_⟩ (fun hHeld => ?_)
          clear hK K
          refine norm_ (a' := ?_) ?_ ?_
          rotate_left
          ·show Act.put _ (some 11) _ = _
           simp only [Act.put, ls0_, ls1_, ls2_, i64_w, i32_w]
           rfl
          refine on_ 9 (some 56) (bm 16 9215) HT_ (fun K hK => ?_)
          refine gs_ Try.func75 #[.agg #[.int .i64 ((rd_T38 t252 t247).f3.f0), .int .i64 ((rd_T38 t252 t247).f3.f1), .int .i64 ((rd_T38 t252 t247).f3.f2)], .agg #[.int .i64 a1_0, .int .i64 a1_1, .int .i64 a1_2], .int .i64 ((rd_T38 t252 t247).f1)] ?_
          with_reducible refine (impl_Finish.calls kj3 ((rd_T38 t252 t247).f3.f0) ((rd_T38 t252 t247).f3.f1) ((rd_T38 t252 t247).f3.f2) a1_0 a1_1 a1_2 ((rd_T38 t252 t247).f1) t263 t264 t265 t266 _ A64.out).mono ?_
          rintro e w89 ⟨rfl, hb⟩
          have HS3_ := hc_ hb hHeld.2.2.2.1
          have HS4_ := hc_ hb hHeld.2.2.2.2.1
          have HS5_ := hc_ hb hHeld.2.2.2.2.2.1
          have HS6_ := hc_ hb hHeld.2.2.2.2.2.2.1
          have HS7_ := hc_ hb hHeld.2.2.2.2.2.2.2.1
          have HS8_ := hc_ hb hHeld.2.2.2.2.2.2.2.2.1
          have HS9_ := hc_ hb hHeld.2.2.2.2.2.2.2.2.2.1
          have HS10_ := hc_ hb hHeld.2.2.2.2.2.2.2.2.2.2.1
          have HS11_ := hc_ hb hHeld.2.2.2.2.2.2.2.2.2.2.2.1
          have HS12_ := hc_ hb hHeld.2.2.2.2.2.2.2.2.2.2.2.2.1
          have HS13_ := hc_ hb hHeld.2.2.2.2.2.2.2.2.2.2.2.2.2.1
          have HS14_ := hc_ hb hHeld.2.2.2.2.2.2.2.2.2.2.2.2.2.2
          refine ⟨_, rfl, ?_⟩
          replace HO254 := Aside0.mk (Kd.R_below (kr_ HO254) hb); replace BK242 := bb_ BK242 hb; replace BK243 := bb_ BK243 hb; replace BK244 := bb_ BK244 hb; replace BK255 := bb_ BK255 hb; replace BK267 := bb_ BK267 hb; replace HB := Aside0.mk (below_step (bf_ HB) hb); (try clear hb); (try clear hb2); (try clear hk); (try clear hi)
          refine hK.out _ _ ⟨bt_ BK243 0, bt_ BK243 1, bt_ BK243 2, HS3_, HS4_, HS5_, HS6_, HS7_, HS8_, HS9_, HS10_, HS11_, HS12_, HS13_, HS14_⟩ (fun hHeld => ?_)
          clear hK K
          refine norm_ (a' := ?_) ?_ ?_
          rotate_left
          ·show Act.put _ (some 56) _ = _
           simp only [Act.put, ls0_, ls1_, ls2_, i64_w, i32_w]
           rfl
          refine ps_ 10 46 (bm 16 10239) HT_ ?_
          refine ps_ 11 57 (bm 16 12287) HT_ ?_
          refine ps_ 12 58 (bs 16 14) HT_ ?_
          exact norm_ (by simp only [putAll, Act.put, ls0_, ls1_, ls2_]) (hCont (gb267) _ ⟨hHeld, (kr_ HO254), (bk_ BK242), (bk_ BK243), (bk_ BK244), (bk_ BK255), (bk_ BK267), GW267.out, GE267.out, NB242_267.out, NB267_242.out, NB243_267.out, NB267_243.out, NB244_267.out, NB267_244.out, NB255_267.out, NB267_255.out, (bf_ HB)⟩)
        rintro gb267 w90 ⟨hS_, h0_, h1_, h2_, h3_, h4_, h5_, h6_, h7_, h8_, h9_, h10_, h11_, h12_, h13_, h14_, h15_, h16_⟩
        have n0_ : Aside0 (Kd.R k38 38 w90 w.heap.size (fun _ => True) (.slice (some ⟨go37, 0, none⟩) t252.length co77) t252) := ⟨h0_⟩
        have n1_ : Aside0 (w90.heap[gb242]? = some (.cells #[.int .i64 a0_0, .int .i64 a0_1, .int .i64 a0_2, .int .i64 a0_3, .slice A0_4 l0_4.length c0_4] 32 (0, 0))) := ⟨h1_⟩
        have n2_ : Aside0 (w90.heap[gb243]? = some (.cells #[.int .i64 a1_0, .int .i64 a1_1, .int .i64 a1_2] 29 (0, 0))) := ⟨h2_⟩
        have n3_ : Aside0 (w90.heap[gb244]? = some (.cells #[.int .i64 0, .int .i64 0, .int .i64 0, .int .i64 0, .slice none 0 0] 32 (0, 0))) := ⟨h3_⟩
        have n4_ : Aside0 (w90.heap[gb255]? = some (.cells #[.int .i64 t248, .int .i64 t257, .int .i64 t258, .int .i64 t259, .slice (some ⟨go37, 0, none⟩) t252.length co77] 32 (0, 0))) := ⟨h4_⟩
        have n5_ : Aside0 (w90.heap[gb267]? = some (.cells #[.int .i64 0, .int .i64 0, .int .i64 0] 29 (0, 0))) := ⟨h5_⟩
        have n6_ : Aside0 (w.heap.size ≤ gb267) := ⟨h6_⟩
        have n7_ : Aside0 (w.heap.size ≤ gb267) := ⟨h7_⟩
        have n8_ : Aside0 (gb242 ≠ gb267) := ⟨h8_⟩
        have n9_ : Aside0 (gb267 ≠ gb242) := ⟨h9_⟩
        have n10_ : Aside0 (gb243 ≠ gb267) := ⟨h10_⟩
        have n11_ : Aside0 (gb267 ≠ gb243) := ⟨h11_⟩
        have n12_ : Aside0 (gb244 ≠ gb267) := ⟨h12_⟩
        have n13_ : Aside0 (gb267 ≠ gb244) := ⟨h13_⟩
        have n14_ : Aside0 (gb255 ≠ gb267) := ⟨h14_⟩
        have n15_ : Aside0 (gb267 ≠ gb255) := ⟨h15_⟩
        have n16_ : Aside0 (Below w.heap.size w w90) := ⟨h16_⟩
        clear HO254 BK242 BK243 BK244 BK255 HB h0_ h1_ h2_ h3_ h4_ h5_ h6_ h7_ h8_ h9_ h10_ h11_ h12_ h13_ h14_ h15_ h16_; have HO254 := n0_; have BK242 := n1_; have BK243 := n2_; have BK244 := n3_; have BK255 := n4_; have BK267 := n5_; have GW267 := n6_; have GE267 := n7_; have NB242_267 := n8_; have NB267_242 := n9_; have NB243_267 := n10_; have NB267_243 := n11_; have NB244_267 := n12_; have NB267_244 := n13_; have NB255_267 := n14_; have NB267_255 := n15_; have HB := n16_; clear n0_ n1_ n2_ n3_ n4_ n5_ n6_ n7_ n8_ n9_ n10_ n11_ n12_ n13_ n14_ n15_ n16_
        have hHeld : w90.cell? ⟨gb243, 0, none⟩ = some (.int .i64 a1_0) ∧ w90.cell? ⟨gb243, 1, none⟩ = some (.int .i64 a1_1) ∧ w90.cell? ⟨gb243, 2, none⟩ = some (.int .i64 a1_2) ∧ w90.cell? ⟨go37, (t247).toNat * 6, none⟩ = some (.int .i64 ((rd_T38 t252 t247).f0)) ∧ w90.cell? ⟨go37, (t247).toNat * 6 + 1, none⟩ = some (.int .i64 ((rd_T38 t252 t247).f1)) ∧ w90.cell? ⟨go37, (t247).toNat * 6 + 2, none⟩ = some (.bool ((rd_T38 t252 t247).f2)) ∧ w90.cell? ⟨go37, (t247).toNat * 6 + 3, none⟩ = some (.int .i64 ((rd_T38 t252 t247).f3.f0)) ∧ w90.cell? ⟨go37, (t247).toNat * 6 + 4, none⟩ = some (.int .i64 ((rd_T38 t252 t247).f3.f1)) ∧ w90.cell? ⟨go37, (t247).toNat * 6 + 5, none⟩ = some (.int .i64 ((rd_T38 t252 t247).f3.f2)) ∧ w90.cell? ⟨go37, (t247).toNat * 6, none⟩ = some (.int .i64 ((rd_T38 t252 t247).f0)) ∧ w90.cell? ⟨go37, (t247).toNat * 6 + 1, none⟩ = some (.int .i64 ((rd_T38 t252 t247).f1)) ∧ w90.cell? ⟨go37, (t247).toNat * 6 + 2, none⟩ = some (.bool ((rd_T38 t252 t247).f2)) ∧ w90.cell? ⟨go37, (t247).toNat * 6 + 3, none⟩ = some (.int .i64 ((rd_T38 t252 t247).f3.f0)) ∧ w90.cell? ⟨go37, (t247).toNat * 6 + 4, none⟩ = some (.int .i64 ((rd_T38 t252 t247).f3.f1)) ∧ w90.cell? ⟨go37, (t247).toNat * 6 + 5, none⟩ = some (.int .i64 ((rd_T38 t252 t247).f3.f2)) := hS_
        refine norm_ (a' := ?_) ?_ ?_
        rotate_left
        ·simp only [putAll, Act.put, ls0_, ls1_, ls2_]
         rfl
        refine on_ 14 none (bs 16 15) HT_ (fun K hK => ?_)
        have hs91 := bc_ BK267 0 (.int .i64 0) rfl; have hfs91 := blk_frozen BK267.out 0; have hns91_0 := NB242_267.out; have hns91_1 := NB243_267.out; have hns91_2 := NB244_267.out; have hns91_3 := NB255_267.out; have hms91_0 := NB267_242.out; have hms91_1 := NB267_243.out; have hms91_2 := NB267_244.out; have hms91_3 := NB267_255.out; have hs92 := bc_ BK267 1 (.int .i64 0) rfl; have hfs92 := blk_frozen BK267.out 1; have hns92_0 := NB242_267.out; have hns92_1 := NB243_267.out; have hns92_2 := NB244_267.out; have hns92_3 := NB255_267.out; have hms92_0 := NB267_242.out; have hms92_1 := NB267_243.out; have hms92_2 := NB267_244.out; have hms92_3 := NB267_255.out; have hs93 := bc_ BK267 2 (.int .i64 0) rfl; have hfs93 := blk_frozen BK267.out 2; have hns93_0 := NB242_267.out; have hns93_1 := NB243_267.out; have hns93_2 := NB244_267.out; have hns93_3 := NB255_267.out; have hms93_0 := NB267_242.out; have hms93_1 := NB267_243.out; have hms93_2 := NB267_244.out; have hms93_3 := NB267_255.out
        refine skip_ (w1 := ?_) (by rfl) rfl ?_ ?_
        rotate_left
        ·go_simp
         rfl
        refine hK.out _ _ ⟨(cf3_ NB243_267.out hHeld.1), (cf3_ NB243_267.out hHeld.2.1), (cf3_ NB243_267.out hHeld.2.2.1), (cf3_ (ab_ (Kd.own_blk (Kd.R_ne HO254.out BK267.out (by decide)))) hHeld.2.2.2.1), (cf3_ (ab_ (Kd.own_blk (Kd.R_ne HO254.out BK267.out (by decide)))) hHeld.2.2.2.2.1), (cf3_ (ab_ (Kd.own_blk (Kd.R_ne HO254.out BK267.out (by decide)))) hHeld.2.2.2.2.2.1), (cf3_ (ab_ (Kd.own_blk (Kd.R_ne HO254.out BK267.out (by decide)))) hHeld.2.2.2.2.2.2.1), (cf3_ (ab_ (Kd.own_blk (Kd.R_ne HO254.out BK267.out (by decide)))) hHeld.2.2.2.2.2.2.2.1), (cf3_ (ab_ (Kd.own_blk (Kd.R_ne HO254.out BK267.out (by decide)))) hHeld.2.2.2.2.2.2.2.2.1), (cf3_ (ab_ (Kd.own_blk (Kd.R_ne HO254.out BK267.out (by decide)))) hHeld.2.2.2.2.2.2.2.2.2.1), (cf3_ (ab_ (Kd.own_blk (Kd.R_ne HO254.out BK267.out (by decide)))) hHeld.2.2.2.2.2.2.2.2.2.2.1), (cf3_ (ab_ (Kd.own_blk (Kd.R_ne HO254.out BK267.out (by decide)))) hHeld.2.2.2.2.2.2.2.2.2.2.2.1), (cf3_ (ab_ (Kd.own_blk (Kd.R_ne HO254.out BK267.out (by decide)))) hHeld.2.2.2.2.2.2.2.2.2.2.2.2.1), (cf3_ (ab_ (Kd.own_blk (Kd.R_ne HO254.out BK267.out (by decide)))) hHeld.2.2.2.2.2.2.2.2.2.2.2.2.2.1), (cf3_ (ab_ (Kd.own_blk (Kd.R_ne HO254.out BK267.out (by decide)))) hHeld.2.2.2.2.2.2.2.2.2.2.2.2.2.2)⟩ (fun hHeld => ?_)
        clear hK K
        refine ps_ 15 12 (bs 16 16) HT_ ?_
        refine done_ (done_of HT_.out (by kernel_rfl)) ?_
        have hnb94 := NB267_242.out; have hnc94 := NB242_267.out; have hnb95 := NB267_243.out; have hnc95 := NB243_267.out; have hnb96 := NB267_244.out; have hnc96 := NB244_267.out; have hnb97 := NB267_255.out; have hnc97 := NB255_267.out; obtain ⟨hcz98_0, hcz98_1, hcz98_2, hfz98_0, hfz98_1, hfz98_2⟩ := bz3_ BK267; obtain ⟨hcz99_0, hcz99_1, hcz99_2, hcz99_3, hcz99_4, hfz99_0, hfz99_1, hfz99_2, hfz99_3, hfz99_4⟩ := bz5_ BK242
        try go_wp2_with (first | ((with_reducible refine gc_ 76 rfl ?_); refine gl_ 64 Try.func76 #[.agg #[.int .i64 t263, .int .i64 t264, .int .i64 t265], .int .i64 a0_0] ?_; (with_reducible refine (impl_Dovetail.calls t263 t264 t265 a0_0 t268 t269 t270 _ A65.out).mono ?_); rintro e w100 ⟨rfl, hb⟩; refine ⟨_, rfl, ?_⟩; replace HO254 := Aside0.mk (Kd.R_below (by (with_reducible repeat (first | apply Kd.R_alloc | apply Kd.R_drewN | apply Kd.R_drew)); exact (rf3_ HO254 BK267 (.int .i64 t263) (.int .i64 t264) (.int .i64 t265))) hb); replace BK242 := bm_ BK242 hb; replace BK243 := bm_ BK243 hb; replace BK244 := bm_ BK244 hb; replace BK255 := bm_ BK255 hb; replace BK267 := Aside0.mk (blk_below (g := gb267) (o := .cells #[.int .i64 t263, .int .i64 t264, .int .i64 t265] 29 (0, 0)) (by (with_reducible repeat (first | refine blk_drewN ?_ _ | refine blk_drew ?_ | refine blk_alloc ?_ _)); refine blk_put (cs := #[.int .i64 t263, .int .i64 t264, .int .i64 0]) ?_ 2 _ rfl; (with_reducible repeat (first | refine blk_drewN ?_ _ | refine blk_drew ?_ | refine blk_alloc ?_ _)); refine blk_put (cs := #[.int .i64 t263, .int .i64 0, .int .i64 0]) ?_ 1 _ rfl; (with_reducible repeat (first | refine blk_drewN ?_ _ | refine blk_drew ?_ | refine blk_alloc ?_ _)); refine blk_put (cs := #[.int .i64 0, .int .i64 0, .int .i64 0]) ?_ 0 _ rfl; exact bk_ BK267) hb); replace HB := Aside0.mk (below_step (bf_ HB) hb); (try clear hb); (try clear hb2); (try clear hk); (try clear hi); have HX101 := Aside0.mk (show Kd.R k38 38 w100 w.heap.size (fun _ => True) (.slice (some ⟨go37, 0, none⟩) t252.length co77) t252 from (kr_ HO254)); obtain ⟨ce101, hcl101, hM101, hcc101, hfr101⟩ := Kd.R_elem HX101.out z38 (t247 : Int) (od_) (by have h_ : (t247 : Int) < ((t252.length : Int) : Int) := od_; first | exact h_ | (have e_ := (Kd.R_reads' HO254.out).1; omega) | simpa using h_); obtain rfl := k38_openM hM101; have HP101 := Kd.R_seg HX101.out (t247 : Int) (od_) (by have h_ : (t247 : Int) < ((t252.length : Int) : Int) := od_; first | exact h_ | (have e_ := (Kd.R_reads' HO254.out).1; omega) | simpa using h_) (seg := [.int .i64 t268, .int .i64 t269, .int .i64 t270]) (j := 3) hcl101 hcc101 (show 6 ≤ 6 from by decide) (x' := (⟨(rd_T38 t252 t247).f0, (rd_T38 t252 t247).f1, (rd_T38 t252 t247).f2, (⟨t268, t269, t270⟩ : S29)⟩ : S38)) (k38_mkM _ _ _ (⟨(rd_T38 t252 t247).f0, (rd_T38 t252 t247).f1, (rd_T38 t252 t247).f2, (⟨t268, t269, t270⟩ : S29)⟩ : S38) ) (fun _ hk => by first | exact hk | grind); have hx101_3 := hcc101 3 _ rfl; (try simp only [show (k38).sz = 6 from rfl, Nat.mul_one, Nat.add_zero] at hx101_3); have hf101_3 := hfr101 3; (try simp only [show (k38).sz = 6 from rfl, Nat.mul_one, Nat.add_zero] at hf101_3); have hx101_4 := hcc101 4 _ rfl; (try simp only [show (k38).sz = 6 from rfl, Nat.mul_one, Nat.add_zero] at hx101_4); have hf101_4 := hfr101 4; (try simp only [show (k38).sz = 6 from rfl, Nat.mul_one, Nat.add_zero] at hf101_4); have hx101_5 := hcc101 5 _ rfl; (try simp only [show (k38).sz = 6 from rfl, Nat.mul_one, Nat.add_zero] at hx101_5); have hf101_5 := hfr101 5; (try simp only [show (k38).sz = 6 from rfl, Nat.mul_one, Nat.add_zero] at hf101_5); clear hcl101 hcc101 hfr101 hM101) | ((with_reducible refine gate_store (t := 29) (p := 67) rfl ?_); refine store_event (t := 29) (p := 67) (v := ?vo_w102) (w1 := (((w100.setCell ⟨go37, (t247 : Int).toNat * 6 + 3, none⟩ (.int .i64 t268)).setCell ⟨go37, (t247 : Int).toNat * 6 + 4, none⟩ (.int .i64 t269)).setCell ⟨go37, (t247 : Int).toNat * 6 + 5, none⟩ (.int .i64 t270))) ?hg ?ho ?hn ?hr ?_; (case ho => rfl); (case hg => rfl); (case hn => rfl); (case hr => first | (go_simp; done) | (go_simp; rfl)); intro w102 hw; have hg : w100.grownBy w102 (some go37) := (by rw [hw]; exact HP101.2); have hp_ : Kd.R k38 38 w102 w.heap.size (fun _ => True) (.slice (some ⟨go37, 0, none⟩) t252.length co77) y271 := (by rw [hw, Ny271.out]; exact HP101.1); clear HP101; replace BK242 := Aside0.mk (blk_grown (g := gb242) (o := .cells #[.int .i64 a0_0, .int .i64 a0_1, .int .i64 a0_2, .int .i64 a0_3, .slice A0_4 l0_4.length c0_4] 32 (0, 0)) (bk_ BK242) hg (Kd.R_ne HO254.out BK242.out (by decide))); replace BK243 := Aside0.mk (blk_grown (g := gb243) (o := .cells #[.int .i64 a1_0, .int .i64 a1_1, .int .i64 a1_2] 29 (0, 0)) (bk_ BK243) hg (Kd.R_ne HO254.out BK243.out (by decide))); replace BK244 := Aside0.mk (blk_grown (g := gb244) (o := .cells #[.int .i64 0, .int .i64 0, .int .i64 0, .int .i64 0, .slice none 0 0] 32 (0, 0)) (bk_ BK244) hg (Kd.R_ne HO254.out BK244.out (by decide))); replace BK255 := Aside0.mk (blk_grown (g := gb255) (o := .cells #[.int .i64 t248, .int .i64 t257, .int .i64 t258, .int .i64 t259, .slice (some ⟨go37, 0, none⟩) t252.length co77] 32 (0, 0)) (bk_ BK255) hg (Kd.R_ne HO254.out BK255.out (by decide))); replace BK267 := Aside0.mk (blk_grown (g := gb267) (o := .cells #[.int .i64 t263, .int .i64 t264, .int .i64 t265] 29 (0, 0)) (bk_ BK267) hg (Kd.R_ne HO254.out BK267.out (by decide))); replace HO254 := Aside0.mk (hp_); replace HB := Aside0.mk ((by rw [hw]; exact below_set (below_set (below_set (HB.out) GB37.out) GB37.out) GB37.out : Below w.heap.size w w102)); clear hg hw hp_; have HX103 := Aside0.mk (show Kd.R k38 38 w102 w.heap.size (fun _ => True) (.slice (some ⟨go37, 0, none⟩) t252.length co77) y271 from (kr_ HO254)); obtain ⟨ce103, hcl103, hM103, hcc103, hfr103⟩ := Kd.R_elem HX103.out z38 (t247 : Int) (od_) (by have h_ : (t247 : Int) < ((t252.length : Int) : Int) := od_; first | exact h_ | (have e_ := (Kd.R_reads' HO254.out).1; omega) | simpa using h_); obtain rfl := k38_openM hM103; have HP103 := Kd.R_seg HX103.out (t247 : Int) (od_) (by have h_ : (t247 : Int) < ((t252.length : Int) : Int) := od_; first | exact h_ | (have e_ := (Kd.R_reads' HO254.out).1; omega) | simpa using h_) (seg := [.bool a2]) (j := 2) hcl103 hcc103 (show 3 ≤ 6 from by decide) (x' := (⟨(rd_T38 y271 t247).f0, (rd_T38 y271 t247).f1, a2, (⟨(rd_T38 y271 t247).f3.f0, (rd_T38 y271 t247).f3.f1, (rd_T38 y271 t247).f3.f2⟩ : S29)⟩ : S38)) (k38_mkM _ _ _ (⟨(rd_T38 y271 t247).f0, (rd_T38 y271 t247).f1, a2, (⟨(rd_T38 y271 t247).f3.f0, (rd_T38 y271 t247).f3.f1, (rd_T38 y271 t247).f3.f2⟩ : S29)⟩ : S38) ) (fun _ hk => by first | exact hk | grind); have hx103_2 := hcc103 2 _ rfl; (try simp only [show (k38).sz = 6 from rfl, Nat.mul_one, Nat.add_zero] at hx103_2); have hf103_2 := hfr103 2; (try simp only [show (k38).sz = 6 from rfl, Nat.mul_one, Nat.add_zero] at hf103_2); clear hcl103 hcc103 hfr103 hM103) | ((with_reducible refine gate_store (t := 4) (p := 69) rfl ?_); refine store_event (t := 4) (p := 69) (v := ?vo_w104) (w1 := (w102.setCell ⟨go37, (t247 : Int).toNat * 6 + 2, none⟩ (.bool a2))) ?hg ?ho ?hn ?hr ?_; (case ho => rfl); (case hg => rfl); (case hn => rfl); (case hr => first | (go_simp; done) | (go_simp; rfl)); intro w104 hw; have hg : w102.grownBy w104 (some go37) := (by rw [hw]; exact HP103.2); have hp_ : Kd.R k38 38 w104 w.heap.size (fun _ => True) (.slice (some ⟨go37, 0, none⟩) t252.length co77) y272 := (by rw [hw, Ny272.out]; exact HP103.1); clear HP103; replace BK242 := Aside0.mk (blk_grown (g := gb242) (o := .cells #[.int .i64 a0_0, .int .i64 a0_1, .int .i64 a0_2, .int .i64 a0_3, .slice A0_4 l0_4.length c0_4] 32 (0, 0)) (bk_ BK242) hg (Kd.R_ne HO254.out BK242.out (by decide))); replace BK243 := Aside0.mk (blk_grown (g := gb243) (o := .cells #[.int .i64 a1_0, .int .i64 a1_1, .int .i64 a1_2] 29 (0, 0)) (bk_ BK243) hg (Kd.R_ne HO254.out BK243.out (by decide))); replace BK244 := Aside0.mk (blk_grown (g := gb244) (o := .cells #[.int .i64 0, .int .i64 0, .int .i64 0, .int .i64 0, .slice none 0 0] 32 (0, 0)) (bk_ BK244) hg (Kd.R_ne HO254.out BK244.out (by decide))); replace BK255 := Aside0.mk (blk_grown (g := gb255) (o := .cells #[.int .i64 t248, .int .i64 t257, .int .i64 t258, .int .i64 t259, .slice (some ⟨go37, 0, none⟩) t252.length co77] 32 (0, 0)) (bk_ BK255) hg (Kd.R_ne HO254.out BK255.out (by decide))); replace BK267 := Aside0.mk (blk_grown (g := gb267) (o := .cells #[.int .i64 t263, .int .i64 t264, .int .i64 t265] 29 (0, 0)) (bk_ BK267) hg (Kd.R_ne HO254.out BK267.out (by decide))); replace HO254 := Aside0.mk (hp_); replace HB := Aside0.mk ((by rw [hw]; exact below_set (HB.out) GB37.out : Below w.heap.size w w104)); clear hg hw hp_; obtain ⟨hcz105_0, hcz105_1, hcz105_2, hcz105_3, hcz105_4, hfz105_0, hfz105_1, hfz105_2, hfz105_3, hfz105_4⟩ := bz5_ BK255; have hnb106 := NB244_243.out; have hnc106 := NB243_244.out; obtain ⟨hcz107_0, hcz107_1, hcz107_2, hcz107_3, hcz107_4, hfz107_0, hfz107_1, hfz107_2, hfz107_3, hfz107_4⟩ := bz5_ BK244))
        refine bodyPost_ret (results_ct rfl _ _ gb244 32 #[.int .i64 t248, .int .i64 t257, .int .i64 t258, .int .i64 t259, .slice (some ⟨go37, 0, none⟩) t252.length co77] (0, 0) _ rfl (by (with_reducible repeat (first | refine blk_drewN ?_ _ | refine blk_drew ?_ | refine blk_alloc ?_ _)); refine blk_put (cs := #[.int .i64 t248, .int .i64 t257, .int .i64 t258, .int .i64 t259, .slice none 0 0]) ?_ 4 _ rfl; (with_reducible repeat (first | refine blk_drewN ?_ _ | refine blk_drew ?_ | refine blk_alloc ?_ _)); refine blk_put (cs := #[.int .i64 t248, .int .i64 t257, .int .i64 t258, .int .i64 0, .slice none 0 0]) ?_ 3 _ rfl; (with_reducible repeat (first | refine blk_drewN ?_ _ | refine blk_drew ?_ | refine blk_alloc ?_ _)); refine blk_put (cs := #[.int .i64 t248, .int .i64 t257, .int .i64 0, .int .i64 0, .slice none 0 0]) ?_ 2 _ rfl; (with_reducible repeat (first | refine blk_drewN ?_ _ | refine blk_drew ?_ | refine blk_alloc ?_ _)); refine blk_put (cs := #[.int .i64 t248, .int .i64 0, .int .i64 0, .int .i64 0, .slice none 0 0]) ?_ 1 _ rfl; (with_reducible repeat (first | refine blk_drewN ?_ _ | refine blk_drew ?_ | refine blk_alloc ?_ _)); refine blk_put (cs := #[.int .i64 0, .int .i64 0, .int .i64 0, .int .i64 0, .slice none 0 0]) ?_ 0 _ rfl; exact bk_ BK244) Try.underlying32 rfl (by kernel_rfl)) rfl ?_
        exact ⟨_, by first | rfl | (simp [errW_none, errW_some] <;> rfl) | (simp [*, errW_none, errW_some] <;> rfl), by (with_reducible repeat (first | apply Kd.R_alloc | apply Kd.R_drewN | apply Kd.R_drew)); exact Kd.R_mono (Kd.R_far (p := ⟨gb244, 4, none⟩) (Kd.R_far (p := ⟨gb244, 3, none⟩) (Kd.R_far (p := ⟨gb244, 2, none⟩) (Kd.R_far (p := ⟨gb244, 1, none⟩) (Kd.R_far (p := ⟨gb244, 0, none⟩) (Kd.R_types HO254.out BK244.out (by decide)) (fun _ hk => by first | exact hk.2 | grind) (.int .i64 t248)) (fun _ hk => by first | exact hk.2 | grind) (.int .i64 t257)) (fun _ hk => by first | exact hk.2 | grind) (.int .i64 t258)) (fun _ hk => by first | exact hk.2 | grind) (.int .i64 t259)) (fun _ hk => by first | exact hk.2 | grind) (.slice (some ⟨go37, 0, none⟩) t252.length co77)) (fun _ hk => by first | exact trivial | grind), bf_ HB⟩
      ·rw [if_neg c36] at H
       exact absurd H (by simp)
     ·rw [if_neg c35] at H
      exact absurd H (by simp)

/-! ### spec_VecTop: function 40 -/
def spec_VecTop.f (a0_0 : Int) (a0_1 : Int) (a0_2 : Int) : Option (Int) := some (mx (mx a0_0 a0_1) a0_2)
set_option maxHeartbeats 8000000 in
set_option maxRecDepth 100000 in
theorem spec_VecTop.calls (a0_0 : Int) (a0_1 : Int) (a0_2 : Int) (r : Int) (w : World) (h : spec_VecTop.f a0_0 a0_1 a0_2 = some r) :
  Calls Try.prog 40 #[.agg #[.int .i64 a0_0, .int .i64 a0_1, .int .i64 a0_2]] w fun e w' => e = .returned (.int .i64 r) ∧ Below w.heap.size w w' := by
 have hu29 := Try.underlying29; have HB := Aside0.mk (Below.refl w.heap.size w)
 have H : (some (mx (mx a0_0 a0_1) a0_2)) = some r := h
 clear h
 obtain ⟨ji2, hji2⟩ : ∃ j_ : Int, (mx a0_0 a0_1) = j_ := ⟨_, rfl⟩
 replace H : (some (mx (ji2) a0_2)) = some r := by first | (rw [hji2] at H; exact H) | (simp only [hji2] at H ⊢; exact H)
 have hji2_ : (if a0_0 < a0_1 then a0_1 else a0_0) = ji2 := hji2
 obtain ⟨ji3, hji3⟩ : ∃ j_ : Int, (mx (ji2) a0_2) = j_ := ⟨_, rfl⟩
 replace H : (some ji3) = some r := by first | (rw [hji3] at H; exact H) | (simp only [hji3] at H ⊢; exact H)
 have hji3_ : (if (ji2) < a0_2 then a0_2 else (ji2)) = ji3 := hji3
 obtain rfl := Option.some.inj H
 go_enter Try.func40, Try.ntmps40
 go_wp2_with (first | ((with_reducible refine gd_ 1 rfl ?_); refine bv_ 1 #[.int .i64 a0_0, .int .i64 a0_1, .int .i64 a0_2] 29 ?_; intro gb273 hg w4 hbox hb; have BK273 := Aside0.mk (hbox); have GW273 := gw_ HB hg; have GE273 := gw_ HB hg; replace HB := Aside0.mk (below_step (be_ HB) hb); clear hb hbox hg; obtain ⟨hcz5_0, hcz5_1, hcz5_2, hfz5_0, hfz5_1, hfz5_2⟩ := bz3_ BK273))
 go_ret
 exact ⟨by first | rfl | (simp [errW_none, errW_some] <;> rfl) | (simp only [← hji2, ← hji3]; first | rfl | (simp [errW_none, errW_some] <;> rfl)) | (simp [*, errW_none, errW_some] <;> rfl), bf_ HB⟩

/-! ### spec_Stride: function 41 -/
def spec_Stride.f (a0 : Int) : Option (Int) := if a0 < 1 then (some 0) else (if a0 > 10 then (some 0) else (if a0 = 0 then (none) else (some (wrap64 ((2520 : Int) / a0)))))
set_option maxHeartbeats 8000000 in
set_option maxRecDepth 100000 in
theorem spec_Stride.calls (a0 : Int) (r : Int) (w : World) (h : spec_Stride.f a0 = some r) :
  Calls Try.prog 41 #[.int .i64 a0] w fun e w' => e = .returned (.int .i64 r) ∧ Drawn0 w w' := by
 have H : (if a0 < 1 then (some 0) else (if a0 > 10 then (some 0) else (if a0 = 0 then (none) else (some (wrap64 ((2520 : Int) / a0)))))) = some r := h
 clear h
 by_cases c2 : a0 < 1
 ·rw [if_pos c2] at H
  have c2b0 : decide (a0 < 1) = true := decide_eq_true c2
  clear c2
  obtain rfl := Option.some.inj H
  go_enter Try.func41, Try.ntmps41
  go_wp2
  go_ret
  exact ⟨by first | rfl | (simp; rw [Int.tdiv_eq_ediv_of_nonneg] <;> first | decide | omega) | (simp; done) | (simp [*]; done), by repeat (first | exact Drawn0.refl _ | apply Drawn0.step)⟩
 ·rw [if_neg c2] at H
  have c2b0 : decide (a0 < 1) = false := decide_eq_false c2
  clear c2
  by_cases c3 : a0 > 10
  ·rw [if_pos c3] at H
   have c3b0 : decide (10 < a0) = true := decide_eq_true c3
   clear c3
   obtain rfl := Option.some.inj H
   go_enter Try.func41, Try.ntmps41
   go_wp2
   go_ret
   exact ⟨by first | rfl | (simp; rw [Int.tdiv_eq_ediv_of_nonneg] <;> first | decide | omega) | (simp; done) | (simp [*]; done), by repeat (first | exact Drawn0.refl _ | apply Drawn0.step)⟩
  ·rw [if_neg c3] at H
   have c3b0 : decide (10 < a0) = false := decide_eq_false c3
   clear c3
   by_cases c4 : a0 = 0
   ·rw [if_pos c4] at H
    exact absurd H (by simp)
   ·rw [if_neg c4] at H
    have c4b0 : (a0 == 0) = false := beq_eq_false_iff_ne.mpr c4
    have c4b1 : (a0 != 0) = true := bne_iff_ne.mpr c4
    obtain rfl := Option.some.inj H
    go_enter Try.func41, Try.ntmps41
    go_wp2
    go_ret
    exact ⟨by first | rfl | (simp; rw [Int.tdiv_eq_ediv_of_nonneg] <;> first | decide | omega) | (simp; done) | (simp [*]; done), by repeat (first | exact Drawn0.refl _ | apply Drawn0.step)⟩

/-! ### spec_l13All: function 107 -/
def spec_l13All.f (a0_0 : Int) (a0_1 : Int) (a0_2 : Int) (a1 : Int) (a2 : Int) : Option (Bool) := if a0_0 ≥ a1 then (if a0_0 ≤ a2 then (if a0_1 ≥ a1 then (if a0_1 ≤ a2 then (if a0_2 ≥ a1 then (some (decide (a0_2 ≤ a2))) else (some false)) else (some false)) else (some false)) else (some false)) else (some false)
set_option maxHeartbeats 8000000 in
set_option maxRecDepth 100000 in
theorem spec_l13All.calls (a0_0 : Int) (a0_1 : Int) (a0_2 : Int) (a1 : Int) (a2 : Int) (r : Bool) (w : World) (h : spec_l13All.f a0_0 a0_1 a0_2 a1 a2 = some r) :
  Calls Try.prog 107 #[.agg #[.int .i64 a0_0, .int .i64 a0_1, .int .i64 a0_2], .int .i64 a1, .int .i64 a2] w fun e w' => e = .returned (.bool r) ∧ Below w.heap.size w w' := by
 have hu29 := Try.underlying29; have HB := Aside0.mk (Below.refl w.heap.size w)
 have H : (if a0_0 ≥ a1 then (if a0_0 ≤ a2 then (if a0_1 ≥ a1 then (if a0_1 ≤ a2 then (if a0_2 ≥ a1 then (some (decide (a0_2 ≤ a2))) else (some false)) else (some false)) else (some false)) else (some false)) else (some false)) = some r := h
 clear h
 by_cases c4 : a0_0 ≥ a1
 ·rw [if_pos c4] at H
  have c4b0 : decide (a1 ≤ a0_0) = true := decide_eq_true c4
  clear c4
  by_cases c5 : a0_0 ≤ a2
  ·rw [if_pos c5] at H
   have c5b0 : decide (a0_0 ≤ a2) = true := decide_eq_true c5
   clear c5
   by_cases c6 : a0_1 ≥ a1
   ·rw [if_pos c6] at H
    have c6b0 : decide (a1 ≤ a0_1) = true := decide_eq_true c6
    clear c6
    by_cases c7 : a0_1 ≤ a2
    ·rw [if_pos c7] at H
     have c7b0 : decide (a0_1 ≤ a2) = true := decide_eq_true c7
     clear c7
     by_cases c8 : a0_2 ≥ a1
     ·rw [if_pos c8] at H
      have c8b0 : decide (a1 ≤ a0_2) = true := decide_eq_true c8
      clear c8
      obtain rfl := Option.some.inj H
      go_enter Try.func107, Try.ntmps107
      go_wp2_with (first | ((with_reducible refine gd_ 3 rfl ?_); refine bv_ 3 #[.int .i64 a0_0, .int .i64 a0_1, .int .i64 a0_2] 29 ?_; intro gb274 hg w9 hbox hb; have BK274 := Aside0.mk (hbox); have GW274 := gw_ HB hg; have GE274 := gw_ HB hg; replace HB := Aside0.mk (below_step (be_ HB) hb); clear hb hbox hg; obtain ⟨hcz10_0, hcz10_1, hcz10_2, hfz10_0, hfz10_1, hfz10_2⟩ := bz3_ BK274))
      go_ret
      exact ⟨by first | rfl | (simp [errW_none, errW_some] <;> rfl) | (simp [*, errW_none, errW_some] <;> rfl), bf_ HB⟩
     ·rw [if_neg c8] at H
      have c8b0 : decide (a1 ≤ a0_2) = false := decide_eq_false c8
      clear c8
      obtain rfl := Option.some.inj H
      go_enter Try.func107, Try.ntmps107
      go_wp2_with (first | ((with_reducible refine gd_ 3 rfl ?_); refine bv_ 3 #[.int .i64 a0_0, .int .i64 a0_1, .int .i64 a0_2] 29 ?_; intro gb274 hg w11 hbox hb; have BK274 := Aside0.mk (hbox); have GW274 := gw_ HB hg; have GE274 := gw_ HB hg; replace HB := Aside0.mk (below_step (be_ HB) hb); clear hb hbox hg; obtain ⟨hcz12_0, hcz12_1, hcz12_2, hfz12_0, hfz12_1, hfz12_2⟩ := bz3_ BK274))
      go_ret
      exact ⟨by first | rfl | (simp [errW_none, errW_some] <;> rfl) | (simp [*, errW_none, errW_some] <;> rfl), bf_ HB⟩
    ·rw [if_neg c7] at H
     have c7b0 : decide (a0_1 ≤ a2) = false := decide_eq_false c7
     clear c7
     obtain rfl := Option.some.inj H
     go_enter Try.func107, Try.ntmps107
     go_wp2_with (first | ((with_reducible refine gd_ 3 rfl ?_); refine bv_ 3 #[.int .i64 a0_0, .int .i64 a0_1, .int .i64 a0_2] 29 ?_; intro gb274 hg w13 hbox hb; have BK274 := Aside0.mk (hbox); have GW274 := gw_ HB hg; have GE274 := gw_ HB hg; replace HB := Aside0.mk (below_step (be_ HB) hb); clear hb hbox hg; obtain ⟨hcz14_0, hcz14_1, hcz14_2, hfz14_0, hfz14_1, hfz14_2⟩ := bz3_ BK274))
     go_ret
     exact ⟨by first | rfl | (simp [errW_none, errW_some] <;> rfl) | (simp [*, errW_none, errW_some] <;> rfl), bf_ HB⟩
   ·rw [if_neg c6] at H
    have c6b0 : decide (a1 ≤ a0_1) = false := decide_eq_false c6
    clear c6
    obtain rfl := Option.some.inj H
    go_enter Try.func107, Try.ntmps107
    go_wp2_with (first | ((with_reducible refine gd_ 3 rfl ?_); refine bv_ 3 #[.int .i64 a0_0, .int .i64 a0_1, .int .i64 a0_2] 29 ?_; intro gb274 hg w15 hbox hb; have BK274 := Aside0.mk (hbox); have GW274 := gw_ HB hg; have GE274 := gw_ HB hg; replace HB := Aside0.mk (below_step (be_ HB) hb); clear hb hbox hg; obtain ⟨hcz16_0, hcz16_1, hcz16_2, hfz16_0, hfz16_1, hfz16_2⟩ := bz3_ BK274))
    go_ret
    exact ⟨by first | rfl | (simp [errW_none, errW_some] <;> rfl) | (simp [*, errW_none, errW_some] <;> rfl), bf_ HB⟩
  ·rw [if_neg c5] at H
   have c5b0 : decide (a0_0 ≤ a2) = false := decide_eq_false c5
   clear c5
   obtain rfl := Option.some.inj H
   go_enter Try.func107, Try.ntmps107
   go_wp2_with (first | ((with_reducible refine gd_ 3 rfl ?_); refine bv_ 3 #[.int .i64 a0_0, .int .i64 a0_1, .int .i64 a0_2] 29 ?_; intro gb274 hg w17 hbox hb; have BK274 := Aside0.mk (hbox); have GW274 := gw_ HB hg; have GE274 := gw_ HB hg; replace HB := Aside0.mk (below_step (be_ HB) hb); clear hb hbox hg; obtain ⟨hcz18_0, hcz18_1, hcz18_2, hfz18_0, hfz18_1, hfz18_2⟩ := bz3_ BK274))
   go_ret
   exact ⟨by first | rfl | (simp [errW_none, errW_some] <;> rfl) | (simp [*, errW_none, errW_some] <;> rfl), bf_ HB⟩
 ·rw [if_neg c4] at H
  have c4b0 : decide (a1 ≤ a0_0) = false := decide_eq_false c4
  clear c4
  obtain rfl := Option.some.inj H
  go_enter Try.func107, Try.ntmps107
  go_wp2_with (first | ((with_reducible refine gd_ 3 rfl ?_); refine bv_ 3 #[.int .i64 a0_0, .int .i64 a0_1, .int .i64 a0_2] 29 ?_; intro gb274 hg w19 hbox hb; have BK274 := Aside0.mk (hbox); have GW274 := gw_ HB hg; have GE274 := gw_ HB hg; replace HB := Aside0.mk (below_step (be_ HB) hb); clear hb hbox hg; obtain ⟨hcz20_0, hcz20_1, hcz20_2, hfz20_0, hfz20_1, hfz20_2⟩ := bz3_ BK274))
  go_ret
  exact ⟨by first | rfl | (simp [errW_none, errW_some] <;> rfl) | (simp [*, errW_none, errW_some] <;> rfl), bf_ HB⟩

/-! ### spec_TagOk: function 86 -/
def spec_TagOk.f (a0_0 : Int) (a0_1 : Int) (a0_2 : Int) : Option (Bool) := (spec_l13All.f a0_0 a0_1 a0_2 0 1000000000000).bind fun t276 => (some t276)
set_option maxHeartbeats 8000000 in
set_option maxRecDepth 100000 in
theorem spec_TagOk.calls (a0_0 : Int) (a0_1 : Int) (a0_2 : Int) (r : Bool) (w : World) (h : spec_TagOk.f a0_0 a0_1 a0_2 = some r) :
  Calls Try.prog 86 #[.agg #[.int .i64 a0_0, .int .i64 a0_1, .int .i64 a0_2]] w fun e w' => e = .returned (.bool r) ∧ Below w.heap.size w w' := by
 have hu29 := Try.underlying29; have HB := Aside0.mk (Below.refl w.heap.size w)
 have H : ((spec_l13All.f a0_0 a0_1 a0_2 0 1000000000000).bind fun t276 => (some t276)) = some r := h
 clear h
 replace H := Option.bind_eq_some_iff.mp H
 obtain ⟨t276, A20, H⟩ := H
 replace H : (some t276) = some r := H
 have A2 := Aside0.mk A20
 clear A20
 obtain rfl := Option.some.inj H
 go_enter Try.func86, Try.ntmps86
 go_wp2_with (first | ((with_reducible refine gd_ 1 rfl ?_); refine bv_ 1 #[.int .i64 a0_0, .int .i64 a0_1, .int .i64 a0_2] 29 ?_; intro gb275 hg w3 hbox hb; have BK275 := Aside0.mk (hbox); have GW275 := gw_ HB hg; have GE275 := gw_ HB hg; replace HB := Aside0.mk (below_step (be_ HB) hb); clear hb hbox hg; obtain ⟨hcz4_0, hcz4_1, hcz4_2, hfz4_0, hfz4_1, hfz4_2⟩ := bz3_ BK275) | ((with_reducible refine gc_ 107 rfl ?_); refine gl_ 4 Try.func107 #[.agg #[.int .i64 a0_0, .int .i64 a0_1, .int .i64 a0_2], .int .i64 0, .int .i64 1000000000000] ?_; (with_reducible refine (spec_l13All.calls a0_0 a0_1 a0_2 0 1000000000000 t276 _ A2.out).mono ?_); rintro e w5 ⟨rfl, hb⟩; refine ⟨_, rfl, ?_⟩; replace BK275 := bb_ BK275 hb; replace HB := Aside0.mk (below_step (bf_ HB) hb); (try clear hb); (try clear hb2); (try clear hk); (try clear hi)))
 go_ret
 exact ⟨by first | rfl | (simp [errW_none, errW_some] <;> rfl) | (simp [*, errW_none, errW_some] <;> rfl), bf_ HB⟩

/-! ### spec_l13Delta: function 87 -/
def spec_l13Delta.f (a0 : Int) : Option (Bool) := if a0 ≥ 0 then (some (decide (a0 ≤ 10000000))) else (some false)
set_option maxHeartbeats 8000000 in
set_option maxRecDepth 100000 in
theorem spec_l13Delta.calls (a0 : Int) (r : Bool) (w : World) (h : spec_l13Delta.f a0 = some r) :
  Calls Try.prog 87 #[.int .i64 a0] w fun e w' => e = .returned (.bool r) ∧ Drawn0 w w' := by
 have H : (if a0 ≥ 0 then (some (decide (a0 ≤ 10000000))) else (some false)) = some r := h
 clear h
 by_cases c2 : a0 ≥ 0
 ·rw [if_pos c2] at H
  have c2b0 : decide (0 ≤ a0) = true := decide_eq_true c2
  clear c2
  obtain rfl := Option.some.inj H
  go_enter Try.func87, Try.ntmps87
  go_wp2
  go_ret
  exact ⟨by first | rfl | (simp; done) | (simp [*]; done), by repeat (first | exact Drawn0.refl _ | apply Drawn0.step)⟩
 ·rw [if_neg c2] at H
  have c2b0 : decide (0 ≤ a0) = false := decide_eq_false c2
  clear c2
  obtain rfl := Option.some.inj H
  go_enter Try.func87, Try.ntmps87
  go_wp2
  go_ret
  exact ⟨by first | rfl | (simp; done) | (simp [*]; done), by repeat (first | exact Drawn0.refl _ | apply Drawn0.step)⟩

end Go.Proofs.Ytljhaoiopokmfaa.PFnExactFairServe
