-- printed by a program of this session (wip/printx) out of the translation; Lean checks it
import Derived.Test.YtljhaoiopokmfaaPFnExactFairRebasex0
import Derived.Test.YtljhaoiopokmfaaPFnExactFairRebasex8
import Derived.Test.YtljhaoiopokmfaaPFnExactFairRebasex9
namespace Go.Proofs.Ytljhaoiopokmfaa.PFnExactFairRebase
open Go.RowKit Go.Proofs.YtljhaoiopokmfaaW.PrintWords Go.Proofs.YtljhaoiopokmfaaW.PrintLast Go.Proofs.YtljhaoiopokmfaaW.PrintMore
attribute [local go_sem] max2_int min2_int max_two min_two max_three min_three max_four min_four   -- for this text's walks alone
set_option linter.unusedVariables false
set_option linter.unusedSimpArgs false

/-! ### impl_FairRebase: function 32 -/
def impl_FairRebase.l0 : Nat → Int → Int → Int → Int → Int → Int → Int → List (S38) → Option (Int × Int × Int × Int × (List (S38)))
  | 0, _, _, _, _, _, _, _, _ => none
  | k + 1, x4, x24, x25, x286000, x286001, x286002, x286003, x286004 => if x25 < x24 then (if 0 ≤ x25 then (if x25 < (x286004.length : Int) then ((impl_Lower.f ((rd_T38 x286004 x25).f3.f0) ((rd_T38 x286004 x25).f3.f1) ((rd_T38 x286004 x25).f3.f2) x4).bind fun bt290 => (impl_FairRebase.l0 k x4 x24 (wrap64 (x25 + 1)) x286000 x286001 x286002 x286003 (x286004.set (x25 : Int).toNat (⟨(rd_T38 x286004 x25).f0, (rd_T38 x286004 x25).f1, (rd_T38 x286004 x25).f2, (⟨bt290.1, bt290.2.1, bt290.2.2⟩ : S29)⟩ : S38)))) else (none)) else (none)) else (some (x286000, x286001, x286002, x286003, x286004))
def impl_FairRebase.f (k : Nat) (a0_0 : Int) (a0_1 : Int) (a0_2 : Int) (a0_3 : Int) (l0_4 : List (S38)) : Option (Int × Int × Int × Int × (List (S38))) := (impl_FairOk.f k a0_0 a0_1 a0_2 a0_3 l0_4).bind fun t276 => (if t276 = true then ((impl_copyFair.f a0_0 a0_1 a0_2 a0_3 l0_4).bind fun bt277 => ((impl_BaseOf.f a0_1 a0_2 a0_3 a0_0).bind fun t284 => ((impl_Lower.f a0_1 a0_2 a0_3 t284).bind fun bt286 => (impl_FairRebase.l0 k t284 (bt277.2.2.2.2.length : Int) 0 bt277.1 bt286.1 bt286.2.1 bt286.2.2 bt277.2.2.2.2)))) else (some (0, 0, 0, 0, ([] : List (S38)))))
theorem impl_FairRebase.mono_l : ∀ k, (∀ y0 y1 y2 y3 y4 y5 y6 y7, LeO (impl_FairRebase.l0 k y0 y1 y2 y3 y4 y5 y6 y7) (impl_FairRebase.l0 (k + 1) y0 y1 y2 y3 y4 y5 y6 y7))
 | 0 => fun _ _ _ _ _ _ _ _ r h => by simp [impl_FairRebase.l0] at h
 | k + 1 => by
  have ih0 := impl_FairRebase.mono_l k
  ·intro y0 y1 y2 y3 y4 y5 y6 y7
   unfold impl_FairRebase.l0
   repeat' first
   | (with_reducible exact ih0 _ _ _ _ _ _ _ _)
   | (with_reducible exact impl_FairOk.mono _ _ _ _ _ _)
   | (with_reducible exact LeO.refl _)
   | (with_reducible exact LeO.none _)
   | (with_reducible refine LeO.ite ?_ ?_)
   | (with_reducible refine LeO.bind ?_ (fun _ => ?_))
   | exact ih0 _ _ _ _ _ _ _ _
   | exact impl_FairOk.mono _ _ _ _ _ _
   | exact LeO.none _
   | refine LeO.ite ?_ ?_
   | refine LeO.bind ?_ (fun _ => ?_)
theorem impl_FairRebase.mono : ∀ a0 a1 a2 a3 a4 k, LeO (impl_FairRebase.f k a0 a1 a2 a3 a4) (impl_FairRebase.f (k + 1) a0 a1 a2 a3 a4) := by
 intro a0 a1 a2 a3 a4 k
 have ih0 := impl_FairRebase.mono_l k
 unfold impl_FairRebase.f
 repeat' first
   | (with_reducible exact ih0 _ _ _ _ _ _ _ _)
   | (with_reducible exact impl_FairOk.mono _ _ _ _ _ _)
   | (with_reducible exact LeO.refl _)
   | (with_reducible exact LeO.none _)
   | (with_reducible refine LeO.ite ?_ ?_)
   | (with_reducible refine LeO.bind ?_ (fun _ => ?_))
   | exact ih0 _ _ _ _ _ _ _ _
   | exact impl_FairOk.mono _ _ _ _ _ _
   | exact LeO.none _
   | refine LeO.ite ?_ ?_
   | refine LeO.bind ?_ (fun _ => ?_)
def impl_FairRebase.T3 : Bool × List (List Nat × List Nat) := (true, [([], []), ([0], [0]), ([], []), ([2], [2]), ([], []), ([4], [4]), ([3, 5, 1], [3, 5]), ([], []), ([7, 1, 6, 0, 1, 7], [1, 7]), ([6, 8, 0, 1, 2, 3, 4, 5, 6, 7, 8], [6])])
def impl_FairRebase.B3 : List Nat := [0, 1, 0, 4, 0, 16, 63, 0, 255, 511]
theorem impl_FairRebase.tab3 : rtab .any (opsOf Try.f32 3) = impl_FairRebase.T3 := by kernel_rfl
theorem impl_FairRebase.bits3 : waitsOk impl_FairRebase.T3.2 impl_FairRebase.B3 = true := by kernel_rfl
def impl_FairRebase.T8 : Bool × List (List Nat × List Nat) := (true, [([], []), ([0], [0]), ([], []), ([], []), ([3], [3]), ([], []), ([4, 5], [4, 5]), ([6], [6]), ([7], [7]), ([], []), ([8, 9], [8, 9]), ([1, 2, 0, 1, 2, 3, 4, 5, 6, 7, 8, 9, 10], [1, 2]), ([11, 0, 1, 2, 3, 4, 5, 6, 7, 8, 9, 10], [11]), ([12, 10, 10, 0, 1, 2, 3, 4, 5, 6, 7, 8, 9, 10], [10, 12])])
def impl_FairRebase.B8 : List Nat := [0, 1, 0, 0, 8, 0, 56, 120, 248, 0, 1016, 2047, 4095, 8191]
theorem impl_FairRebase.tab8 : rtab .any (opsOf Try.f32 8) = impl_FairRebase.T8 := by kernel_rfl
theorem impl_FairRebase.bits8 : waitsOk impl_FairRebase.T8.2 impl_FairRebase.B8 = true := by kernel_rfl
set_option maxHeartbeats 8000000 in
set_option maxRecDepth 100000 in
theorem impl_FairRebase.calls (k : Nat) (a0_0 : Int) (a0_1 : Int) (a0_2 : Int) (a0_3 : Int) (A0_4 : Option Addr) (c0_4 : Nat) (l0_4 : List (S38)) (r1 : Int) (r2 : Int) (r3 : Int) (r4 : Int) (r5 : List (S38)) (w : World) (hr0_4 : Kd.C k38 w A0_4 l0_4.length l0_4) (hc0_4 : l0_4.length ≤ c0_4) (h : impl_FairRebase.f k a0_0 a0_1 a0_2 a0_3 l0_4 = some (r1, r2, r3, r4, r5)) :
  Calls Try.prog 32 #[.agg #[.int .i64 a0_0, .int .i64 a0_1, .int .i64 a0_2, .int .i64 a0_3, .slice A0_4 l0_4.length c0_4]] w fun e w' => ∃ v4_ : Value, e = .returned (.agg #[.int .i64 r1, .int .i64 r2, .int .i64 r3, .int .i64 r4, v4_]) ∧ Kd.R k38 38 w' w.heap.size (fun _ => True) v4_ r5 ∧ Below w.heap.size w w' := by
 have hu32 := Try.underlying32
 have hu29 := Try.underlying29
 have HR0_4 := Aside0.mk hr0_4
 have HC0_4 := Aside0.mk hc0_4
 clear hr0_4 hc0_4
 have HB := Aside0.mk (Below.refl w.heap.size w)
 have H : ((impl_FairOk.f k a0_0 a0_1 a0_2 a0_3 l0_4).bind fun t276 => (if t276 = true then ((impl_copyFair.f a0_0 a0_1 a0_2 a0_3 l0_4).bind fun bt277 => ((impl_BaseOf.f a0_1 a0_2 a0_3 a0_0).bind fun t284 => ((impl_Lower.f a0_1 a0_2 a0_3 t284).bind fun bt286 => (impl_FairRebase.l0 k t284 (bt277.2.2.2.2.length : Int) 0 bt277.1 bt286.1 bt286.2.1 bt286.2.2 bt277.2.2.2.2)))) else (some (0, 0, 0, 0, ([] : List (S38)))))) = some (r1, r2, r3, r4, r5) := h
 clear h
 replace H := Option.bind_eq_some_iff.mp H
 obtain ⟨t276, A20, H⟩ := H
 replace H : (if t276 = true then ((impl_copyFair.f a0_0 a0_1 a0_2 a0_3 l0_4).bind fun bt277 => ((impl_BaseOf.f a0_1 a0_2 a0_3 a0_0).bind fun t284 => ((impl_Lower.f a0_1 a0_2 a0_3 t284).bind fun bt286 => (impl_FairRebase.l0 k t284 (bt277.2.2.2.2.length : Int) 0 bt277.1 bt286.1 bt286.2.1 bt286.2.2 bt277.2.2.2.2)))) else (some (0, 0, 0, 0, ([] : List (S38))))) = some (r1, r2, r3, r4, r5) := H
 have A2 := Aside0.mk A20
 clear A20
 by_cases c3 : t276 = true
 ·subst c3
  have H1 : ((impl_copyFair.f a0_0 a0_1 a0_2 a0_3 l0_4).bind fun bt277 => ((impl_BaseOf.f a0_1 a0_2 a0_3 a0_0).bind fun t284 => ((impl_Lower.f a0_1 a0_2 a0_3 t284).bind fun bt286 => (impl_FairRebase.l0 k t284 (bt277.2.2.2.2.length : Int) 0 bt277.1 bt286.1 bt286.2.1 bt286.2.2 bt277.2.2.2.2)))) = some (r1, r2, r3, r4, r5) := by rw [if_pos rfl] at H; exact H
  clear H
  have H := H1
  clear H1
  replace H := Option.bind_eq_some_iff.mp H
  obtain ⟨⟨t277, t278, t279, t280, t281⟩, A40, H⟩ := H
  replace H : ((impl_BaseOf.f a0_1 a0_2 a0_3 a0_0).bind fun t284 => ((impl_Lower.f a0_1 a0_2 a0_3 t284).bind fun bt286 => (impl_FairRebase.l0 k t284 (t281.length : Int) 0 t277 bt286.1 bt286.2.1 bt286.2.2 t281))) = some (r1, r2, r3, r4, r5) := H
  have A4 := Aside0.mk A40
  clear A40
  replace H := Option.bind_eq_some_iff.mp H
  obtain ⟨t284, A50, H⟩ := H
  replace H : ((impl_Lower.f a0_1 a0_2 a0_3 t284).bind fun bt286 => (impl_FairRebase.l0 k t284 (t281.length : Int) 0 t277 bt286.1 bt286.2.1 bt286.2.2 t281)) = some (r1, r2, r3, r4, r5) := H
  have A5 := Aside0.mk A50
  clear A50
  replace H := Option.bind_eq_some_iff.mp H
  obtain ⟨⟨t286, t287, t288⟩, A60, H⟩ := H
  replace H : (impl_FairRebase.l0 k t284 (t281.length : Int) 0 t277 t286 t287 t288 t281) = some (r1, r2, r3, r4, r5) := H
  have A6 := Aside0.mk A60
  clear A60
  have H' := Aside0.mk H
  clear H
  go_enter Try.func32, Try.ntmps32
  try go_wp2_with (first | ((with_reducible refine gate_dst (N := 1) rfl ?_); refine box_event ?hg (N := 1) ?hd (cs := #[.int .i64 a0_0, .int .i64 a0_1, .int .i64 a0_2, .int .i64 a0_3, .slice A0_4 l0_4.length c0_4]) (t := 32) ?hr ?_; (case hd => rfl); (case hg => rfl); (case hr => first | (go_simp; done) | (go_simp; rfl)); intro gb274 hg w7 hbox hb; have n0_ := Aside0.mk (below_step (be_ HB) hb); have n1_ := Aside0.mk (hbox); have n2_ := Aside0.mk ((by rw [hg]; exact (below_size (be_ HB)) : w.heap.size ≤ gb274)); have n3_ := Aside0.mk ((by rw [hg]; exact (below_size (be_ HB)) : w.heap.size ≤ gb274)); clear HB; have HB := n0_; have BK274 := n1_; have GW274 := n2_; have GE274 := n3_; clear n0_ n1_ n2_ n3_; clear hb hbox hg) | ((with_reducible refine gate_dst (N := 2) rfl ?_); refine box_event ?hg (N := 2) ?hd (cs := #[.int .i64 0, .int .i64 0, .int .i64 0, .int .i64 0, .slice none 0 0]) (t := 32) ?hr ?_; (case hd => rfl); (case hg => rfl); (case hr => first | (go_simp; done) | (go_simp; rfl)); intro gb275 hg w8 hbox hb; have n0_ := bb_ BK274 hb; have n1_ := Aside0.mk (below_step (bf_ HB) hb); have n2_ := Aside0.mk (hbox); have n3_ := Aside0.mk ((by rw [hg]; exact (below_size (bf_ HB)) : w.heap.size ≤ gb275)); have n4_ := Aside0.mk ((by rw [hg]; exact (below_size (bf_ HB)) : w.heap.size ≤ gb275)); have n5_ := Aside0.mk ((by rw [hg]; exact Nat.ne_of_lt (blk_lt (g := gb274) (o := .cells #[.int .i64 a0_0, .int .i64 a0_1, .int .i64 a0_2, .int .i64 a0_3, .slice A0_4 l0_4.length c0_4] 32 (0, 0)) (bk_ BK274)) : gb274 ≠ gb275)); have n6_ := Aside0.mk ((by rw [hg]; exact Nat.ne_of_gt (blk_lt (g := gb274) (o := .cells #[.int .i64 a0_0, .int .i64 a0_1, .int .i64 a0_2, .int .i64 a0_3, .slice A0_4 l0_4.length c0_4] 32 (0, 0)) (bk_ BK274)) : gb275 ≠ gb274)); clear BK274; clear HB; have BK274 := n0_; have HB := n1_; have BK275 := n2_; have GW275 := n3_; have GE275 := n4_; have NB274_275 := n5_; have NB275_274 := n6_; clear n0_ n1_ n2_ n3_ n4_ n5_ n6_; clear hb hbox hg; have hnb9 := NB274_275.out; have hnc9 := NB275_274.out; have hcz10_0 := bc_ BK274 0 (.int .i64 a0_0) rfl; have hcz10_1 := bc_ BK274 1 (.int .i64 a0_1) rfl; have hcz10_2 := bc_ BK274 2 (.int .i64 a0_2) rfl; have hcz10_3 := bc_ BK274 3 (.int .i64 a0_3) rfl; have hcz10_4 := bc_ BK274 4 (.slice A0_4 l0_4.length c0_4) rfl; have hfz10_0 := blk_frozen BK274.out 0; have hfz10_1 := blk_frozen BK274.out 1; have hfz10_2 := blk_frozen BK274.out 2; have hfz10_3 := blk_frozen BK274.out 3; have hfz10_4 := blk_frozen BK274.out 4) | ((with_reducible refine gate_callee (f := 18) rfl ?_); refine goesL_ (some 7) rfl rfl Try.func18 (by kernel_rfl) rfl #[.agg #[.int .i64 a0_0, .int .i64 a0_1, .int .i64 a0_2, .int .i64 a0_3, .slice A0_4 l0_4.length c0_4]] rfl mt_ ?_; (with_reducible refine (impl_FairOk.calls k a0_0 a0_1 a0_2 a0_3 _ _ l0_4 true _ ?side1 ?side2 A2.out).mono ?_); (case side1 => repeat (first | exact (Kd.C_below HR0_4.out HB.out) | (with_reducible refine Kd.C_alloc ?_ _) | (with_reducible refine Kd.C_drewN ?_ _) | (with_reducible refine Kd.C_drew ?_))); (case side2 => exact HC0_4.out); rintro e w11 ⟨rfl, hb⟩; refine ⟨_, rfl, ?_⟩; have n0_ := bb_ BK274 hb; have n1_ := bb_ BK275 hb; have n2_ := Aside0.mk (below_step (bf_ HB) hb); clear BK274; clear BK275; clear HB; have BK274 := n0_; have BK275 := n1_; have HB := n2_; clear n0_ n1_ n2_; (try clear hb); (try clear hb2); (try clear hk); (try clear hi)))
  have n0_ := Aside0.mk (blk_drew BK274.out)
  have n1_ := Aside0.mk (blk_drew BK275.out)
  have n2_ := Aside0.mk (below_drew1 HB.out)
  clear BK274
  clear BK275
  clear HB
  have BK274 := n0_
  have BK275 := n1_
  have HB := n2_
  clear n0_ n1_ n2_
  refine start_ (n := 10) (S := fun w' => w'.cell? ⟨gb274, 0, none⟩ = some (.int .i64 a0_0) ∧ w'.cell? ⟨gb274, 1, none⟩ = some (.int .i64 a0_1) ∧ w'.cell? ⟨gb274, 2, none⟩ = some (.int .i64 a0_2) ∧ w'.cell? ⟨gb274, 3, none⟩ = some (.int .i64 a0_3) ∧ w'.cell? ⟨gb274, 4, none⟩ = some (.slice A0_4 l0_4.length c0_4)) (ds := []) (bs 10 0) (by kernel_rfl) rfl rfl ⟨(blk_cell BK274.out 0).trans rfl, (blk_cell BK274.out 1).trans rfl, (blk_cell BK274.out 2).trans rfl, (blk_cell BK274.out 3).trans rfl, (blk_cell BK274.out 4).trans rfl⟩ (fun hHeld => ?_); refine with_tabW impl_FairRebase.tab3 impl_FairRebase.bits3 (fun HT_ HW_ => ?_)
  generalize w11.drew = w12 at BK274 BK275 HB hHeld ⊢
  refine pure_s (i := 2) (N := some 12) #[oF,oF,oT,oF,oF,oF,oF,oF,oF,oF] (any_of HT_.out (by kernel_rfl)) (h := ?_)
  refine pure_s (i := 4) (N := some 14) #[oF,oF,oT,oF,oT,oF,oF,oF,oF,oF] (any_of HT_.out (by kernel_rfl)) (h := ?_)
  refine take_ (i := 0) (N := some 10) (v := ?_) (a' := ?_) #[oT,oF,oT,oF,oT,oF,oF,oF,oF,oF] rfl rfl (take_ofW HT_.out HW_.out (by kernel_rfl)) (fun _ _ _ h => h) (Or.inl ⟨by rfl, ?_⟩) hHeld ?_ ?_
  rotate_left
  ·rintro w' ⟨s0, s1, s2, s3, s4⟩
   go_simp
   with_reducible rfl
  rotate_left
  ·simp only [Act.put, List.setIfInBounds_toArray, List.set_cons_zero, List.set_cons_succ, i64_w, i32_w]
   rfl
  refine take_ (i := 3) (N := some 13) (v := ?_) (a' := ?_) #[oT,oF,oT,oT,oT,oF,oF,oF,oF,oF] rfl rfl (take_ofW HT_.out HW_.out (by kernel_rfl)) (fun _ _ _ h => h) (Or.inl ⟨by rfl, ?_⟩) hHeld ?_ ?_
  rotate_left
  ·rintro w' ⟨s0, s1, s2, s3, s4⟩
   go_simp
   with_reducible rfl
  rotate_left
  ·simp only [Act.put, List.setIfInBounds_toArray, List.set_cons_zero, List.set_cons_succ, i64_w, i32_w]
   rfl
  refine take_ (i := 5) (N := some 15) (v := ?_) (a' := ?_) #[oT,oF,oT,oT,oT,oT,oF,oF,oF,oF] rfl rfl (take_ofW HT_.out HW_.out (by kernel_rfl)) (fun _ _ _ h => h) (Or.inl ⟨by rfl, ?_⟩) hHeld ?_ ?_
  rotate_left
  ·rintro w' ⟨s0, s1, s2, s3, s4⟩
   go_simp
   with_reducible rfl
  rotate_left
  ·simp only [Act.put, List.setIfInBounds_toArray, List.set_cons_zero, List.set_cons_succ, i64_w, i32_w]
   rfl
  refine join_ (σ := Value × Nat) 2 (bs 10 8) (fun s_ => [(11, .agg #[.int .i64 t277, .int .i64 t278, .int .i64 t279, .int .i64 t280, s_.1]), (16, .int .i64 t284), (3, .pointer (some ⟨s_.2, 0, none⟩))]) (fun s_ w' => (w'.cell? ⟨gb274, 0, none⟩ = some (.int .i64 a0_0) ∧ w'.cell? ⟨gb274, 1, none⟩ = some (.int .i64 a0_1) ∧ w'.cell? ⟨gb274, 2, none⟩ = some (.int .i64 a0_2) ∧ w'.cell? ⟨gb274, 3, none⟩ = some (.int .i64 a0_3) ∧ w'.cell? ⟨gb274, 4, none⟩ = some (.slice A0_4 l0_4.length c0_4)) ∧ (Kd.R k38 38 w' w.heap.size (fun _ => True) s_.1 t281) ∧ (w'.heap[gb274]? = some (.cells #[.int .i64 a0_0, .int .i64 a0_1, .int .i64 a0_2, .int .i64 a0_3, .slice A0_4 l0_4.length c0_4] 32 (0, 0))) ∧ (w'.heap[gb275]? = some (.cells #[.int .i64 0, .int .i64 0, .int .i64 0, .int .i64 0, .slice none 0 0] 32 (0, 0))) ∧ (w'.heap[s_.2]? = some (.cells #[.int .i64 0, .int .i64 0, .int .i64 0, .int .i64 0, .slice none 0 0] 32 (0, 0))) ∧ (w.heap.size ≤ s_.2) ∧ (w.heap.size ≤ s_.2) ∧ (gb274 ≠ s_.2) ∧ (s_.2 ≠ gb274) ∧ (gb275 ≠ s_.2) ∧ (s_.2 ≠ gb275) ∧ (Below w.heap.size w w')) ?_ ?_
  rotate_left
  ·intro hCont
   refine two_ (i := 1) (j := 7) (Ni := some 11) (Nj := some 3) (bs 10 6) #[oT,oF,oT,oT,oT,oT,oF,oT,oF,oF] rfl rfl rfl rfl (two_of HT_.out (by kernel_rfl)) (by decide) (by decide) (fun K hK => ?_) (fun K hK => ?_)
   ·skip
    refine goes_ Try.func62 (by kernel_rfl) rfl #[.agg #[.int .i64 a0_0, .int .i64 a0_1, .int .i64 a0_2, .int .i64 a0_3, .slice A0_4 l0_4.length c0_4]] (by rfl) rfl rfl mt_ ?_
    with_reducible refine (impl_copyFair.calls a0_0 a0_1 a0_2 a0_3 _ _ l0_4 t277 t278 t279 t280 t281 _ ?side1 ?side2 A4.out).mono ?_
    (case side1 => repeat (first | exact (Kd.C_below HR0_4.out HB.out) | (with_reducible refine Kd.C_alloc ?_ _) | (with_reducible refine Kd.C_drewN ?_ _) | (with_reducible refine Kd.C_drew ?_)))
    (case side2 => exact HC0_4.out)
    rintro e w13 ⟨v282, rfl, ho0, hb⟩
    refine ⟨_, rfl, ?_⟩
    have n0_ := Aside0.mk (Kd.R_lower ho0 (below_size (bf_ HB)))
    have n1_ := bb_ BK274 hb
    have n2_ := bb_ BK275 hb
    have n3_ := Aside0.mk (below_step (bf_ HB) hb)
    clear BK274
    clear BK275
    clear HB
    have HO283 := n0_
    have BK274 := n1_
    have BK275 := n2_
    have HB := n3_
    clear n0_ n1_ n2_ n3_
    try clear hb
    try clear hb2
    try clear hk
    try clear hi
    try clear ho0
    refine hK.out _ _ ⟨(blk_cell BK274.out 0).trans rfl, (blk_cell BK274.out 1).trans rfl, (blk_cell BK274.out 2).trans rfl, (blk_cell BK274.out 3).trans rfl, (blk_cell BK274.out 4).trans rfl⟩ (fun hHeld => ?_)
    clear hK K
    refine norm_ (a' := ?_) ?_ ?_
    rotate_left
    ·show Act.put _ (some 11) _ = _
     simp only [Act.put, List.setIfInBounds_toArray, List.set_cons_zero, List.set_cons_succ, i64_w, i32_w]
     rfl
    refine two_ (i := 6) (j := 7) (Ni := some 16) (Nj := some 3) (bs 10 7) #[oT,oT,oT,oT,oT,oT,oF,oT,oF,oF] rfl rfl rfl rfl (two_of HT_.out (by kernel_rfl)) (by decide) (by decide) (fun K hK => ?_) (fun K hK => ?_)
    ·skip
     refine goes_ Try.func67 (by kernel_rfl) rfl #[.agg #[.int .i64 a0_1, .int .i64 a0_2, .int .i64 a0_3], .int .i64 a0_0] (by rfl) rfl rfl mt_ ?_
     with_reducible refine (impl_BaseOf.calls a0_1 a0_2 a0_3 a0_0 t284 _ A5.out).mono ?_
     rintro e w14 ⟨rfl, hb⟩
     refine ⟨_, rfl, ?_⟩
     have n0_ := Aside0.mk (Kd.R_below (kr_ HO283) hb)
     have n1_ := bb_ BK274 hb
     have n2_ := bb_ BK275 hb
     have n3_ := Aside0.mk (below_step (bf_ HB) hb)
     clear HO283
     clear BK274
     clear BK275
     clear HB
     have HO283 := n0_
     have BK274 := n1_
     have BK275 := n2_
     have HB := n3_
     clear n0_ n1_ n2_ n3_
     try clear hb
     try clear hb2
     try clear hk
     try clear hi
     refine hK.out _ _ ⟨(blk_cell BK274.out 0).trans rfl, (blk_cell BK274.out 1).trans rfl, (blk_cell BK274.out 2).trans rfl, (blk_cell BK274.out 3).trans rfl, (blk_cell BK274.out 4).trans rfl⟩ (fun hHeld => ?_)
     clear hK K
     refine norm_ (a' := ?_) ?_ ?_
     rotate_left
     ·show Act.put _ (some 16) _ = _
      simp only [Act.put, List.setIfInBounds_toArray, List.set_cons_zero, List.set_cons_succ, i64_w, i32_w]
      rfl
     refine one_ (i := 7) (N := some 3) (bs 10 8) rfl rfl (one_of HT_.out (by kernel_rfl)) (by decide) (fun K hK => ?_)
     refine box_step ?hg (N := 3) ?hd (cs := #[.int .i64 0, .int .i64 0, .int .i64 0, .int .i64 0, .slice none 0 0]) (t := 32) ?hr ?_; (case hd => rfl); (case hg => rfl); (case hr => first | (go_simp; done) | (go_simp; rfl))
     intro gb285 hg w15 hbox hb
     have n0_ := Aside0.mk (Kd.R_below (kr_ HO283) hb)
     have n1_ := bb_ BK274 hb
     have n2_ := bb_ BK275 hb
     have n3_ := Aside0.mk (below_step (bf_ HB) hb)
     have n4_ := Aside0.mk (hbox)
     have n5_ := Aside0.mk ((by rw [hg]; exact (below_size (bf_ HB)) : w.heap.size ≤ gb285))
     have n6_ := Aside0.mk ((by rw [hg]; exact (below_size (bf_ HB)) : w.heap.size ≤ gb285))
     have n7_ := Aside0.mk ((by rw [hg]; exact Nat.ne_of_lt (blk_lt (g := gb274) (o := .cells #[.int .i64 a0_0, .int .i64 a0_1, .int .i64 a0_2, .int .i64 a0_3, .slice A0_4 l0_4.length c0_4] 32 (0, 0)) (bk_ BK274)) : gb274 ≠ gb285))
     have n8_ := Aside0.mk ((by rw [hg]; exact Nat.ne_of_gt (blk_lt (g := gb274) (o := .cells #[.int .i64 a0_0, .int .i64 a0_1, .int .i64 a0_2, .int .i64 a0_3, .slice A0_4 l0_4.length c0_4] 32 (0, 0)) (bk_ BK274)) : gb285 ≠ gb274))
     have n9_ := Aside0.mk ((by rw [hg]; exact Nat.ne_of_lt (blk_lt (g := gb275) (o := .cells #[.int .i64 0, .int .i64 0, .int .i64 0, .int .i64 0, .slice none 0 0] 32 (0, 0)) (bk_ BK275)) : gb275 ≠ gb285))
     have n10_ := Aside0.mk ((by rw [hg]; exact Nat.ne_of_gt (blk_lt (g := gb275) (o := .cells #[.int .i64 0, .int .i64 0, .int .i64 0, .int .i64 0, .slice none 0 0] 32 (0, 0)) (bk_ BK275)) : gb285 ≠ gb275))
     clear HO283
     clear BK274
     clear BK275
     clear HB
     have HO283 := n0_
     have BK274 := n1_
     have BK275 := n2_
     have HB := n3_
     have BK285 := n4_
     have GW285 := n5_
     have GE285 := n6_
     have NB274_285 := n7_
     have NB285_274 := n8_
     have NB275_285 := n9_
     have NB285_275 := n10_
     clear n0_ n1_ n2_ n3_ n4_ n5_ n6_ n7_ n8_ n9_ n10_
     clear hb hbox hg
     refine hK.out _ _ ⟨(blk_cell BK274.out 0).trans rfl, (blk_cell BK274.out 1).trans rfl, (blk_cell BK274.out 2).trans rfl, (blk_cell BK274.out 3).trans rfl, (blk_cell BK274.out 4).trans rfl⟩ (fun hHeld => ?_)
     clear hK K
     refine norm_ (a' := ?_) ?_ ?_
     rotate_left
     ·show Act.put _ (some 3) _ = _
      simp only [Act.put, List.setIfInBounds_toArray, List.set_cons_zero, List.set_cons_succ, i64_w, i32_w]
      rfl
     exact norm_ (by simp only [putAll, Act.put, List.setIfInBounds_toArray, List.set_cons_zero, List.set_cons_succ]) (hCont (v282, gb285) _ ⟨hHeld, (kr_ HO283), (bk_ BK274), (bk_ BK275), (bk_ BK285), GW285.out, GE285.out, NB274_285.out, NB285_274.out, NB275_285.out, NB285_275.out, (bf_ HB)⟩)
    ·skip
     refine box_step ?hg (N := 3) ?hd (cs := #[.int .i64 0, .int .i64 0, .int .i64 0, .int .i64 0, .slice none 0 0]) (t := 32) ?hr ?_; (case hd => rfl); (case hg => rfl); (case hr => first | (go_simp; done) | (go_simp; rfl))
     intro gb285 hg w14 hbox hb
     have n0_ := Aside0.mk (Kd.R_below (kr_ HO283) hb)
     have n1_ := bb_ BK274 hb
     have n2_ := bb_ BK275 hb
     have n3_ := Aside0.mk (below_step (bf_ HB) hb)
     have n4_ := Aside0.mk (hbox)
     have n5_ := Aside0.mk ((by rw [hg]; exact (below_size (bf_ HB)) : w.heap.size ≤ gb285))
     have n6_ := Aside0.mk ((by rw [hg]; exact (below_size (bf_ HB)) : w.heap.size ≤ gb285))
     have n7_ := Aside0.mk ((by rw [hg]; exact Nat.ne_of_lt (blk_lt (g := gb274) (o := .cells #[.int .i64 a0_0, .int .i64 a0_1, .int .i64 a0_2, .int .i64 a0_3, .slice A0_4 l0_4.length c0_4] 32 (0, 0)) (bk_ BK274)) : gb274 ≠ gb285))
     have n8_ := Aside0.mk ((by rw [hg]; exact Nat.ne_of_gt (blk_lt (g := gb274) (o := .cells #[.int .i64 a0_0, .int .i64 a0_1, .int .i64 a0_2, .int .i64 a0_3, .slice A0_4 l0_4.length c0_4] 32 (0, 0)) (bk_ BK274)) : gb285 ≠ gb274))
     have n9_ := Aside0.mk ((by rw [hg]; exact Nat.ne_of_lt (blk_lt (g := gb275) (o := .cells #[.int .i64 0, .int .i64 0, .int .i64 0, .int .i64 0, .slice none 0 0] 32 (0, 0)) (bk_ BK275)) : gb275 ≠ gb285))
     have n10_ := Aside0.mk ((by rw [hg]; exact Nat.ne_of_gt (blk_lt (g := gb275) (o := .cells #[.int .i64 0, .int .i64 0, .int .i64 0, .int .i64 0, .slice none 0 0] 32 (0, 0)) (bk_ BK275)) : gb285 ≠ gb275))
     clear HO283
     clear BK274
     clear BK275
     clear HB
     have HO283 := n0_
     have BK274 := n1_
     have BK275 := n2_
     have HB := n3_
     have BK285 := n4_
     have GW285 := n5_
     have GE285 := n6_
     have NB274_285 := n7_
     have NB285_274 := n8_
     have NB275_285 := n9_
     have NB285_275 := n10_
     clear n0_ n1_ n2_ n3_ n4_ n5_ n6_ n7_ n8_ n9_ n10_
     clear hb hbox hg
     refine hK.out _ _ ⟨(blk_cell BK274.out 0).trans rfl, (blk_cell BK274.out 1).trans rfl, (blk_cell BK274.out 2).trans rfl, (blk_cell BK274.out 3).trans rfl, (blk_cell BK274.out 4).trans rfl⟩ (fun hHeld => ?_)
     clear hK K
     refine norm_ (a' := ?_) ?_ ?_
     rotate_left
     ·show Act.put _ (some 3) _ = _
      simp only [Act.put, List.setIfInBounds_toArray, List.set_cons_zero, List.set_cons_succ, i64_w, i32_w]
      rfl
     refine one_ (i := 6) (N := some 16) (bs 10 8) rfl rfl (one_of HT_.out (by kernel_rfl)) (by decide) (fun K hK => ?_)
     refine goes_ Try.func67 (by kernel_rfl) rfl #[.agg #[.int .i64 a0_1, .int .i64 a0_2, .int .i64 a0_3], .int .i64 a0_0] (by rfl) rfl rfl mt_ ?_
     with_reducible refine (impl_BaseOf.calls a0_1 a0_2 a0_3 a0_0 t284 _ A5.out).mono ?_
     rintro e w15 ⟨rfl, hb⟩
     refine ⟨_, rfl, ?_⟩
     have n0_ := Aside0.mk (Kd.R_below (kr_ HO283) hb)
     have n1_ := bb_ BK274 hb
     have n2_ := bb_ BK275 hb
     have n3_ := bb_ BK285 hb
     have n4_ := Aside0.mk (below_step (bf_ HB) hb)
     clear HO283
     clear BK274
     clear BK275
     clear BK285
     clear HB
     have HO283 := n0_
     have BK274 := n1_
     have BK275 := n2_
     have BK285 := n3_
     have HB := n4_
     clear n0_ n1_ n2_ n3_ n4_
     try clear hb
     try clear hb2
     try clear hk
     try clear hi
     refine hK.out _ _ ⟨(blk_cell BK274.out 0).trans rfl, (blk_cell BK274.out 1).trans rfl, (blk_cell BK274.out 2).trans rfl, (blk_cell BK274.out 3).trans rfl, (blk_cell BK274.out 4).trans rfl⟩ (fun hHeld => ?_)
     clear hK K
     refine norm_ (a' := ?_) ?_ ?_
     rotate_left
     ·show Act.put _ (some 16) _ = _
      simp only [Act.put, List.setIfInBounds_toArray, List.set_cons_zero, List.set_cons_succ, i64_w, i32_w]
      rfl
     exact norm_ (by simp only [putAll, Act.put, List.setIfInBounds_toArray, List.set_cons_zero, List.set_cons_succ]) (hCont (v282, gb285) _ ⟨hHeld, (kr_ HO283), (bk_ BK274), (bk_ BK275), (bk_ BK285), GW285.out, GE285.out, NB274_285.out, NB285_274.out, NB275_285.out, NB285_275.out, (bf_ HB)⟩)
   ·skip
    refine box_step ?hg (N := 3) ?hd (cs := #[.int .i64 0, .int .i64 0, .int .i64 0, .int .i64 0, .slice none 0 0]) (t := 32) ?hr ?_; (case hd => rfl); (case hg => rfl); (case hr => first | (go_simp; done) | (go_simp; rfl))
    intro gb285 hg w13 hbox hb
    have n0_ := bb_ BK274 hb
    have n1_ := bb_ BK275 hb
    have n2_ := Aside0.mk (below_step (bf_ HB) hb)
    have n3_ := Aside0.mk (hbox)
    have n4_ := Aside0.mk ((by rw [hg]; exact (below_size (bf_ HB)) : w.heap.size ≤ gb285))
    have n5_ := Aside0.mk ((by rw [hg]; exact (below_size (bf_ HB)) : w.heap.size ≤ gb285))
    have n6_ := Aside0.mk ((by rw [hg]; exact Nat.ne_of_lt (blk_lt (g := gb274) (o := .cells #[.int .i64 a0_0, .int .i64 a0_1, .int .i64 a0_2, .int .i64 a0_3, .slice A0_4 l0_4.length c0_4] 32 (0, 0)) (bk_ BK274)) : gb274 ≠ gb285))
    have n7_ := Aside0.mk ((by rw [hg]; exact Nat.ne_of_gt (blk_lt (g := gb274) (o := .cells #[.int .i64 a0_0, .int .i64 a0_1, .int .i64 a0_2, .int .i64 a0_3, .slice A0_4 l0_4.length c0_4] 32 (0, 0)) (bk_ BK274)) : gb285 ≠ gb274))
    have n8_ := Aside0.mk ((by rw [hg]; exact Nat.ne_of_lt (blk_lt (g := gb275) (o := .cells #[.int .i64 0, .int .i64 0, .int .i64 0, .int .i64 0, .slice none 0 0] 32 (0, 0)) (bk_ BK275)) : gb275 ≠ gb285))
    have n9_ := Aside0.mk ((by rw [hg]; exact Nat.ne_of_gt (blk_lt (g := gb275) (o := .cells #[.int .i64 0, .int .i64 0, .int .i64 0, .int .i64 0, .slice none 0 0] 32 (0, 0)) (bk_ BK275)) : gb285 ≠ gb275))
    clear BK274
    clear BK275
    clear HB
    have BK274 := n0_
    have BK275 := n1_
    have HB := n2_
    have BK285 := n3_
    have GW285 := n4_
    have GE285 := n5_
    have NB274_285 := n6_
    have NB285_274 := n7_
    have NB275_285 := n8_
    have NB285_275 := n9_
    clear n0_ n1_ n2_ n3_ n4_ n5_ n6_ n7_ n8_ n9_
    clear hb hbox hg
    refine hK.out _ _ ⟨(blk_cell BK274.out 0).trans rfl, (blk_cell BK274.out 1).trans rfl, (blk_cell BK274.out 2).trans rfl, (blk_cell BK274.out 3).trans rfl, (blk_cell BK274.out 4).trans rfl⟩ (fun hHeld => ?_)
    clear hK K
    refine norm_ (a' := ?_) ?_ ?_
    rotate_left
    ·show Act.put _ (some 3) _ = _
     simp only [Act.put, List.setIfInBounds_toArray, List.set_cons_zero, List.set_cons_succ, i64_w, i32_w]
     rfl
    refine one_ (i := 1) (N := some 11) #[oT,oT,oT,oT,oT,oT,oF,oT,oF,oF] rfl rfl (one_of HT_.out (by kernel_rfl)) (by decide) (fun K hK => ?_)
    refine goes_ Try.func62 (by kernel_rfl) rfl #[.agg #[.int .i64 a0_0, .int .i64 a0_1, .int .i64 a0_2, .int .i64 a0_3, .slice A0_4 l0_4.length c0_4]] (by rfl) rfl rfl mt_ ?_
    with_reducible refine (impl_copyFair.calls a0_0 a0_1 a0_2 a0_3 _ _ l0_4 t277 t278 t279 t280 t281 _ ?side1 ?side2 A4.out).mono ?_
    (case side1 => repeat (first | exact (Kd.C_below HR0_4.out HB.out) | (with_reducible refine Kd.C_alloc ?_ _) | (with_reducible refine Kd.C_drewN ?_ _) | (with_reducible refine Kd.C_drew ?_)))
    (case side2 => exact HC0_4.out)
    rintro e w14 ⟨v282, rfl, ho0, hb⟩
    refine ⟨_, rfl, ?_⟩
    have n0_ := Aside0.mk (Kd.R_lower ho0 (below_size (bf_ HB)))
    have n1_ := bb_ BK274 hb
    have n2_ := bb_ BK275 hb
    have n3_ := bb_ BK285 hb
    have n4_ := Aside0.mk (below_step (bf_ HB) hb)
    clear BK274
    clear BK275
    clear BK285
    clear HB
    have HO283 := n0_
    have BK274 := n1_
    have BK275 := n2_
    have BK285 := n3_
    have HB := n4_
    clear n0_ n1_ n2_ n3_ n4_
    try clear hb
    try clear hb2
    try clear hk
    try clear hi
    try clear ho0
    refine hK.out _ _ ⟨(blk_cell BK274.out 0).trans rfl, (blk_cell BK274.out 1).trans rfl, (blk_cell BK274.out 2).trans rfl, (blk_cell BK274.out 3).trans rfl, (blk_cell BK274.out 4).trans rfl⟩ (fun hHeld => ?_)
    clear hK K
    refine norm_ (a' := ?_) ?_ ?_
    rotate_left
    ·show Act.put _ (some 11) _ = _
     simp only [Act.put, List.setIfInBounds_toArray, List.set_cons_zero, List.set_cons_succ, i64_w, i32_w]
     rfl
    refine one_ (i := 6) (N := some 16) (bs 10 8) rfl rfl (one_of HT_.out (by kernel_rfl)) (by decide) (fun K hK => ?_)
    refine goes_ Try.func67 (by kernel_rfl) rfl #[.agg #[.int .i64 a0_1, .int .i64 a0_2, .int .i64 a0_3], .int .i64 a0_0] (by rfl) rfl rfl mt_ ?_
    with_reducible refine (impl_BaseOf.calls a0_1 a0_2 a0_3 a0_0 t284 _ A5.out).mono ?_
    rintro e w15 ⟨rfl, hb⟩
    refine ⟨_, rfl, ?_⟩
    have n0_ := Aside0.mk (Kd.R_below (kr_ HO283) hb)
    have n1_ := bb_ BK274 hb
    have n2_ := bb_ BK275 hb
    have n3_ := bb_ BK285 hb
    have n4_ := Aside0.mk (below_step (bf_ HB) hb)
    clear HO283
    clear BK274
    clear BK275
    clear BK285
    clear HB
    have HO283 := n0_
    have BK274 := n1_
    have BK275 := n2_
    have BK285 := n3_
    have HB := n4_
    clear n0_ n1_ n2_ n3_ n4_
    try clear hb
    try clear hb2
    try clear hk
    try clear hi
    refine hK.out _ _ ⟨(blk_cell BK274.out 0).trans rfl, (blk_cell BK274.out 1).trans rfl, (blk_cell BK274.out 2).trans rfl, (blk_cell BK274.out 3).trans rfl, (blk_cell BK274.out 4).trans rfl⟩ (fun hHeld => ?_)
    clear hK K
    refine norm_ (a' := ?_) ?_ ?_
    rotate_left
    ·show Act.put _ (some 16) _ = _
     simp only [Act.put, List.setIfInBounds_toArray, List.set_cons_zero, List.set_cons_succ, i64_w, i32_w]
     rfl
    exact norm_ (by simp only [putAll, Act.put, List.setIfInBounds_toArray, List.set_cons_zero, List.set_cons_succ]) (hCont (v282, gb285) _ ⟨hHeld, (kr_ HO283), (bk_ BK274), (bk_ BK275), (bk_ BK285), GW285.out, GE285.out, NB274_285.out, NB285_274.out, NB275_285.out, NB285_275.out, (bf_ HB)⟩)
  rintro ⟨v282, gb285⟩ w16 ⟨hS_, h0_, h1_, h2_, h3_, h4_, h5_, h6_, h7_, h8_, h9_, h10_⟩
  have n0_ : Aside0 (Kd.R k38 38 w16 w.heap.size (fun _ => True) v282 t281) := ⟨h0_⟩
  have n1_ : Aside0 (w16.heap[gb274]? = some (.cells #[.int .i64 a0_0, .int .i64 a0_1, .int .i64 a0_2, .int .i64 a0_3, .slice A0_4 l0_4.length c0_4] 32 (0, 0))) := ⟨h1_⟩
  have n2_ : Aside0 (w16.heap[gb275]? = some (.cells #[.int .i64 0, .int .i64 0, .int .i64 0, .int .i64 0, .slice none 0 0] 32 (0, 0))) := ⟨h2_⟩
  have n3_ : Aside0 (w16.heap[gb285]? = some (.cells #[.int .i64 0, .int .i64 0, .int .i64 0, .int .i64 0, .slice none 0 0] 32 (0, 0))) := ⟨h3_⟩
  have n4_ : Aside0 (w.heap.size ≤ gb285) := ⟨h4_⟩
  have n5_ : Aside0 (w.heap.size ≤ gb285) := ⟨h5_⟩
  have n6_ : Aside0 (gb274 ≠ gb285) := ⟨h6_⟩
  have n7_ : Aside0 (gb285 ≠ gb274) := ⟨h7_⟩
  have n8_ : Aside0 (gb275 ≠ gb285) := ⟨h8_⟩
  have n9_ : Aside0 (gb285 ≠ gb275) := ⟨h9_⟩
  have n10_ : Aside0 (Below w.heap.size w w16) := ⟨h10_⟩
  clear BK274
  clear BK275
  clear HB
  clear h0_ h1_ h2_ h3_ h4_ h5_ h6_ h7_ h8_ h9_ h10_
  have HO283 := n0_
  have BK274 := n1_
  have BK275 := n2_
  have BK285 := n3_
  have GW285 := n4_
  have GE285 := n5_
  have NB274_285 := n6_
  have NB285_274 := n7_
  have NB275_285 := n8_
  have NB285_275 := n9_
  have HB := n10_
  clear n0_ n1_ n2_ n3_ n4_ n5_ n6_ n7_ n8_ n9_ n10_
  have hHeld : w16.cell? ⟨gb274, 0, none⟩ = some (.int .i64 a0_0) ∧ w16.cell? ⟨gb274, 1, none⟩ = some (.int .i64 a0_1) ∧ w16.cell? ⟨gb274, 2, none⟩ = some (.int .i64 a0_2) ∧ w16.cell? ⟨gb274, 3, none⟩ = some (.int .i64 a0_3) ∧ w16.cell? ⟨gb274, 4, none⟩ = some (.slice A0_4 l0_4.length c0_4) := hS_
  obtain ⟨Ao21, co21, eo21⟩ := Kd.R_slice HO283.out
  (first | subst eo21 | (injection eo21 with f1_ f2_ f3_; have f4_ := f1_.symm; have f5_ := f3_.symm; clear f1_ f2_ f3_; subst f4_; subst f5_))
  refine norm_ (a' := ?_) ?_ ?_
  rotate_left
  ·simp only [putAll, Act.put, List.setIfInBounds_toArray, List.set_cons_zero, List.set_cons_succ]
   rfl
  refine one_ (i := 8) (N := none) (bs 10 9) rfl rfl (one_of HT_.out (by kernel_rfl)) (by decide) (fun K hK => ?_)
  have hs17 := bc_ BK285 0 (.int .i64 0) rfl
  have hfs17 := blk_frozen BK285.out 0
  have hns17_0 := NB274_285.out
  have hns17_1 := NB275_285.out
  have hms17_0 := NB285_274.out
  have hms17_1 := NB285_275.out
  have hs18 := bc_ BK285 1 (.int .i64 0) rfl
  have hfs18 := blk_frozen BK285.out 1
  have hns18_0 := NB274_285.out
  have hns18_1 := NB275_285.out
  have hms18_0 := NB285_274.out
  have hms18_1 := NB285_275.out
  have hs19 := bc_ BK285 2 (.int .i64 0) rfl
  have hfs19 := blk_frozen BK285.out 2
  have hns19_0 := NB274_285.out
  have hns19_1 := NB275_285.out
  have hms19_0 := NB285_274.out
  have hms19_1 := NB285_275.out
  have hs20 := bc_ BK285 3 (.int .i64 0) rfl
  have hfs20 := blk_frozen BK285.out 3
  have hns20_0 := NB274_285.out
  have hns20_1 := NB275_285.out
  have hms20_0 := NB285_274.out
  have hms20_1 := NB285_275.out
  have hs22 := bc_ BK285 4 (.slice none 0 0) rfl
  have hfs22 := blk_frozen BK285.out 4
  have hns22_0 := NB274_285.out
  have hns22_1 := NB275_285.out
  have hms22_0 := NB285_274.out
  have hms22_1 := NB285_275.out
  refine skip_ (w1 := ?_) (by rfl) rfl ?_ ?_
  rotate_left
  ·go_simp
   rfl
  refine hK.out _ _ ⟨((cell_far (p := ⟨gb285, _, none⟩) NB274_285.out _).trans (((cell_far (p := ⟨gb285, _, none⟩) NB274_285.out _).trans (((cell_far (p := ⟨gb285, _, none⟩) NB274_285.out _).trans (((cell_far (p := ⟨gb285, _, none⟩) NB274_285.out _).trans (((cell_far (p := ⟨gb285, _, none⟩) NB274_285.out _).trans (hHeld.1)))))))))), ((cell_far (p := ⟨gb285, _, none⟩) NB274_285.out _).trans (((cell_far (p := ⟨gb285, _, none⟩) NB274_285.out _).trans (((cell_far (p := ⟨gb285, _, none⟩) NB274_285.out _).trans (((cell_far (p := ⟨gb285, _, none⟩) NB274_285.out _).trans (((cell_far (p := ⟨gb285, _, none⟩) NB274_285.out _).trans (hHeld.2.1)))))))))), ((cell_far (p := ⟨gb285, _, none⟩) NB274_285.out _).trans (((cell_far (p := ⟨gb285, _, none⟩) NB274_285.out _).trans (((cell_far (p := ⟨gb285, _, none⟩) NB274_285.out _).trans (((cell_far (p := ⟨gb285, _, none⟩) NB274_285.out _).trans (((cell_far (p := ⟨gb285, _, none⟩) NB274_285.out _).trans (hHeld.2.2.1)))))))))), ((cell_far (p := ⟨gb285, _, none⟩) NB274_285.out _).trans (((cell_far (p := ⟨gb285, _, none⟩) NB274_285.out _).trans (((cell_far (p := ⟨gb285, _, none⟩) NB274_285.out _).trans (((cell_far (p := ⟨gb285, _, none⟩) NB274_285.out _).trans (((cell_far (p := ⟨gb285, _, none⟩) NB274_285.out _).trans (hHeld.2.2.2.1)))))))))), ((cell_far (p := ⟨gb285, _, none⟩) NB274_285.out _).trans (((cell_far (p := ⟨gb285, _, none⟩) NB274_285.out _).trans (((cell_far (p := ⟨gb285, _, none⟩) NB274_285.out _).trans (((cell_far (p := ⟨gb285, _, none⟩) NB274_285.out _).trans (((cell_far (p := ⟨gb285, _, none⟩) NB274_285.out _).trans (hHeld.2.2.2.2))))))))))⟩ (fun hHeld => ?_)
  clear hK K
  refine pure_s (i := 9) (N := some 4) (bs 10 10) (any_of HT_.out (by kernel_rfl)) (h := ?_)
  refine done_ (done_of HT_.out (by kernel_rfl)) ?_
  have hnb23 := NB274_285.out
  have hnc23 := NB285_274.out
  have hcz24_0 := bc_ BK274 0 (.int .i64 a0_0) rfl
  have hcz24_1 := bc_ BK274 1 (.int .i64 a0_1) rfl
  have hcz24_2 := bc_ BK274 2 (.int .i64 a0_2) rfl
  have hcz24_3 := bc_ BK274 3 (.int .i64 a0_3) rfl
  have hcz24_4 := bc_ BK274 4 (.slice A0_4 l0_4.length c0_4) rfl
  have hfz24_0 := blk_frozen BK274.out 0
  have hfz24_1 := blk_frozen BK274.out 1
  have hfz24_2 := blk_frozen BK274.out 2
  have hfz24_3 := blk_frozen BK274.out 3
  have hfz24_4 := blk_frozen BK274.out 4
  try go_wp2_with (first | ((with_reducible refine gate_callee (f := 68) rfl ?_); refine goesL_ (some 20) rfl rfl Try.func68 (by kernel_rfl) rfl #[.agg #[.int .i64 a0_1, .int .i64 a0_2, .int .i64 a0_3], .int .i64 t284] rfl mt_ ?_; (with_reducible refine (impl_Lower.calls a0_1 a0_2 a0_3 t284 t286 t287 t288 _ A6.out).mono ?_); rintro e w25 ⟨rfl, hb⟩; refine ⟨_, rfl, ?_⟩; have n0_ := Aside0.mk (Kd.R_below (by (with_reducible repeat (first | apply Kd.R_alloc | apply Kd.R_drewN | apply Kd.R_drew)); exact (rf5_ HO283 BK285 (.int .i64 t277) (.int .i64 t278) (.int .i64 t279) (.int .i64 t280) (.slice Ao21 t281.length co21))) hb); have n1_ := Aside0.mk (blk_below (g := gb274) (o := .cells #[.int .i64 a0_0, .int .i64 a0_1, .int .i64 a0_2, .int .i64 a0_3, .slice A0_4 l0_4.length c0_4] 32 (0, 0)) (by (with_reducible repeat (first | refine blk_drewN ?_ _ | refine blk_drew ?_ | refine blk_alloc ?_ _)); refine blk_far ?_ NB274_285.out _; (with_reducible repeat (first | refine blk_drewN ?_ _ | refine blk_drew ?_ | refine blk_alloc ?_ _)); refine blk_far ?_ NB274_285.out _; (with_reducible repeat (first | refine blk_drewN ?_ _ | refine blk_drew ?_ | refine blk_alloc ?_ _)); refine blk_far ?_ NB274_285.out _; (with_reducible repeat (first | refine blk_drewN ?_ _ | refine blk_drew ?_ | refine blk_alloc ?_ _)); refine blk_far ?_ NB274_285.out _; (with_reducible repeat (first | refine blk_drewN ?_ _ | refine blk_drew ?_ | refine blk_alloc ?_ _)); refine blk_far ?_ NB274_285.out _; exact bk_ BK274) hb); have n2_ := Aside0.mk (blk_below (g := gb275) (o := .cells #[.int .i64 0, .int .i64 0, .int .i64 0, .int .i64 0, .slice none 0 0] 32 (0, 0)) (by (with_reducible repeat (first | refine blk_drewN ?_ _ | refine blk_drew ?_ | refine blk_alloc ?_ _)); refine blk_far ?_ NB275_285.out _; (with_reducible repeat (first | refine blk_drewN ?_ _ | refine blk_drew ?_ | refine blk_alloc ?_ _)); refine blk_far ?_ NB275_285.out _; (with_reducible repeat (first | refine blk_drewN ?_ _ | refine blk_drew ?_ | refine blk_alloc ?_ _)); refine blk_far ?_ NB275_285.out _; (with_reducible repeat (first | refine blk_drewN ?_ _ | refine blk_drew ?_ | refine blk_alloc ?_ _)); refine blk_far ?_ NB275_285.out _; (with_reducible repeat (first | refine blk_drewN ?_ _ | refine blk_drew ?_ | refine blk_alloc ?_ _)); refine blk_far ?_ NB275_285.out _; exact bk_ BK275) hb); have n3_ := Aside0.mk (blk_below (g := gb285) (o := .cells #[.int .i64 t277, .int .i64 t278, .int .i64 t279, .int .i64 t280, .slice Ao21 t281.length co21] 32 (0, 0)) (by (with_reducible repeat (first | refine blk_drewN ?_ _ | refine blk_drew ?_ | refine blk_alloc ?_ _)); refine blk_put (cs := #[.int .i64 t277, .int .i64 t278, .int .i64 t279, .int .i64 t280, .slice none 0 0]) ?_ 4 _ rfl; (with_reducible repeat (first | refine blk_drewN ?_ _ | refine blk_drew ?_ | refine blk_alloc ?_ _)); refine blk_put (cs := #[.int .i64 t277, .int .i64 t278, .int .i64 t279, .int .i64 0, .slice none 0 0]) ?_ 3 _ rfl; (with_reducible repeat (first | refine blk_drewN ?_ _ | refine blk_drew ?_ | refine blk_alloc ?_ _)); refine blk_put (cs := #[.int .i64 t277, .int .i64 t278, .int .i64 0, .int .i64 0, .slice none 0 0]) ?_ 2 _ rfl; (with_reducible repeat (first | refine blk_drewN ?_ _ | refine blk_drew ?_ | refine blk_alloc ?_ _)); refine blk_put (cs := #[.int .i64 t277, .int .i64 0, .int .i64 0, .int .i64 0, .slice none 0 0]) ?_ 1 _ rfl; (with_reducible repeat (first | refine blk_drewN ?_ _ | refine blk_drew ?_ | refine blk_alloc ?_ _)); refine blk_put (cs := #[.int .i64 0, .int .i64 0, .int .i64 0, .int .i64 0, .slice none 0 0]) ?_ 0 _ rfl; exact bk_ BK285) hb); have n4_ := Aside0.mk (below_step (bf_ HB) hb); clear HO283; clear BK274; clear BK275; clear BK285; clear HB; have HO283 := n0_; have BK274 := n1_; have BK275 := n2_; have BK285 := n3_; have HB := n4_; clear n0_ n1_ n2_ n3_ n4_; (try clear hb); (try clear hb2); (try clear hk); (try clear hi); have hnb26 := NB285_275.out; have hnc26 := NB275_285.out; have hcz27_0 := bc_ BK285 0 (.int .i64 t277) rfl; have hcz27_1 := bc_ BK285 1 (.int .i64 t278) rfl; have hcz27_2 := bc_ BK285 2 (.int .i64 t279) rfl; have hcz27_3 := bc_ BK285 3 (.int .i64 t280) rfl; have hcz27_4 := bc_ BK285 4 (.slice Ao21 t281.length co21) rfl; have hfz27_0 := blk_frozen BK285.out 0; have hfz27_1 := blk_frozen BK285.out 1; have hfz27_2 := blk_frozen BK285.out 2; have hfz27_3 := blk_frozen BK285.out 3; have hfz27_4 := blk_frozen BK285.out 4))
  go_loopg [25] k (fun kq v25 w' => ∃ (x25_1 : Int) (x286004_1 : List (S38)) (u286004 : Value), v25 = .int .i64 x25_1 ∧ Aside0 (impl_FairRebase.l0 kq t284 (t281.length : Int) x25_1 t277 t286 t287 t288 x286004_1 = some (r1, r2, r3, r4, r5)) ∧ Aside0 (kq ≤ k) ∧ Aside0 (Kd.R k38 38 w' w.heap.size (fun _ => True) u286004 x286004_1) ∧ Aside0 (w'.heap[gb274]? = some (.cells #[.int .i64 a0_0, .int .i64 a0_1, .int .i64 a0_2, .int .i64 a0_3, (.slice A0_4 l0_4.length c0_4)] 32 (0, 0))) ∧ Aside0 (w'.heap[gb275]? = some (.cells #[.int .i64 0, .int .i64 0, .int .i64 0, .int .i64 0, (.slice none 0 0)] 32 (0, 0))) ∧ Aside0 (w'.heap[gb285]? = some (.cells #[.int .i64 t277, .int .i64 t286, .int .i64 t287, .int .i64 t288, u286004] 32 (0, 0))) ∧ Aside0 (Below w.heap.size w w'))
  case atStart => exact ⟨(0), (t281), (.slice Ao21 t281.length co21), (by first | rfl | (simp; done) | (simp [*]; done)), H', ⟨Nat.le_refl _⟩, ⟨by (with_reducible repeat (first | apply Kd.R_alloc | apply Kd.R_drewN | apply Kd.R_drew)); exact Kd.R_mono (Kd.R_far (p := ⟨gb285, 3, none⟩) (Kd.R_far (p := ⟨gb285, 2, none⟩) (Kd.R_far (p := ⟨gb285, 1, none⟩) (Kd.R_types HO283.out BK285.out (by decide)) (fun _ hk => by first | exact hk.2 | grind) (.int .i64 t286)) (fun _ hk => by first | exact hk.2 | grind) (.int .i64 t287)) (fun _ hk => by first | exact hk.2 | grind) (.int .i64 t288)) (fun _ hk => by first | exact trivial | grind)⟩, ⟨by (with_reducible repeat (first | refine blk_drewN ?_ _ | refine blk_drew ?_ | refine blk_alloc ?_ _)); refine blk_far ?_ NB274_285.out _; (with_reducible repeat (first | refine blk_drewN ?_ _ | refine blk_drew ?_ | refine blk_alloc ?_ _)); refine blk_far ?_ NB274_285.out _; (with_reducible repeat (first | refine blk_drewN ?_ _ | refine blk_drew ?_ | refine blk_alloc ?_ _)); refine blk_far ?_ NB274_285.out _; exact bk_ BK274⟩, ⟨by (with_reducible repeat (first | refine blk_drewN ?_ _ | refine blk_drew ?_ | refine blk_alloc ?_ _)); refine blk_far ?_ NB275_285.out _; (with_reducible repeat (first | refine blk_drewN ?_ _ | refine blk_drew ?_ | refine blk_alloc ?_ _)); refine blk_far ?_ NB275_285.out _; (with_reducible repeat (first | refine blk_drewN ?_ _ | refine blk_drew ?_ | refine blk_alloc ?_ _)); refine blk_far ?_ NB275_285.out _; exact bk_ BK275⟩, ⟨by (with_reducible repeat (first | refine blk_drewN ?_ _ | refine blk_drew ?_ | refine blk_alloc ?_ _)); refine blk_put (cs := #[.int .i64 t277, .int .i64 t286, .int .i64 t287, .int .i64 t280, .slice Ao21 t281.length co21]) ?_ 3 _ rfl; (with_reducible repeat (first | refine blk_drewN ?_ _ | refine blk_drew ?_ | refine blk_alloc ?_ _)); refine blk_put (cs := #[.int .i64 t277, .int .i64 t286, .int .i64 t279, .int .i64 t280, .slice Ao21 t281.length co21]) ?_ 2 _ rfl; (with_reducible repeat (first | refine blk_drewN ?_ _ | refine blk_drew ?_ | refine blk_alloc ?_ _)); refine blk_put (cs := #[.int .i64 t277, .int .i64 t278, .int .i64 t279, .int .i64 t280, .slice Ao21 t281.length co21]) ?_ 1 _ rfl; exact bk_ BK285⟩, ⟨bf_ HB⟩⟩
  case round =>
   clear H'
   try clear c1
   try clear c2
   try clear p2
   try clear c3
   try clear c6
   try clear c9
   try clear c18
   try clear c23
   try clear c26
   try clear hcz10_0 hcz10_1 hcz10_2 hcz10_3 hcz10_4 hfz10_0 hfz10_1 hfz10_2 hfz10_3 hfz10_4
   try clear hcz24_0 hcz24_1 hcz24_2 hcz24_3 hcz24_4 hfz24_0 hfz24_1 hfz24_2 hfz24_3 hfz24_4
   try clear hcz27_0 hcz27_1 hcz27_2 hcz27_3 hcz27_4 hfz27_0 hfz27_1 hfz27_2 hfz27_3 hfz27_4
   obtain ⟨x25_1, x286004_1, u286004, rfl, HA, HK1, HO_286004, BK274, BK275, BK285, HB⟩ := hrel
   cases gk with
   | zero => exact absurd HA.out (by simp [impl_FairRebase.l0])
   | succ k1 =>
    have H := HA.out
    clear HA
    simp only [impl_FairRebase.l0] at H
    by_cases c28 : x25_1 < (t281.length : Int)
    ·rw [if_pos c28] at H
     have c28b0 : decide (x25_1 < (t281.length : Int)) = true := decide_eq_true c28
     clear c28
     by_cases c29 : 0 ≤ x25_1
     ·rw [if_pos c29] at H
      have c29b0 : decide (0 ≤ x25_1) = true := decide_eq_true c29
      clear c29
      by_cases c30 : x25_1 < (x286004_1.length : Int)
      ·rw [if_pos c30] at H
       have c30b0 : decide (x25_1 < (x286004_1.length : Int)) = true := decide_eq_true c30
       clear c30
       replace H := Option.bind_eq_some_iff.mp H
       obtain ⟨⟨t290, t291, t292⟩, A310, H⟩ := H
       replace H : (impl_FairRebase.l0 k1 t284 (t281.length : Int) (wrap64 (x25_1 + 1)) t277 t286 t287 t288 (x286004_1.set (x25_1 : Int).toNat (⟨(rd_T38 x286004_1 x25_1).f0, (rd_T38 x286004_1 x25_1).f1, (rd_T38 x286004_1 x25_1).f2, (⟨t290, t291, t292⟩ : S29)⟩ : S38))) = some (r1, r2, r3, r4, r5) := H
       have A31 := Aside0.mk A310
       clear A310
       obtain ⟨y293, hy293⟩ : ∃ y_ : List (S38), y_ = (x286004_1.set (x25_1 : Int).toNat (⟨(rd_T38 x286004_1 x25_1).f0, (rd_T38 x286004_1 x25_1).f1, (rd_T38 x286004_1 x25_1).f2, (⟨t290, t291, t292⟩ : S29)⟩ : S38)) := ⟨_, rfl⟩
       replace H : (impl_FairRebase.l0 k1 t284 (t281.length : Int) (wrap64 (x25_1 + 1)) t277 t286 t287 t288 y293) = some (r1, r2, r3, r4, r5) := by first | (rw [hy293]; with_reducible exact H) | (have H2_ := (Option.bind_some _ _).symm.trans H; rw [hy293]; with_reducible exact H2_) | (have H2_ := (Option.bind_some _ _).symm.trans H; with_reducible exact H2_) | with_reducible exact H | (rw [hy293]; exact H) | exact H
       have Ny293 := Aside0.mk hy293
       clear hy293
       have H' := Aside0.mk H
       clear H
       try go_wp2
       have n0_ := Aside0.mk (Kd.R_drew HO_286004.out)
       have n1_ := Aside0.mk (blk_drew BK274.out)
       have n2_ := Aside0.mk (blk_drew BK275.out)
       have n3_ := Aside0.mk (blk_drew BK285.out)
       have n4_ := Aside0.mk (below_drew1 HB.out)
       clear HO_286004
       clear BK274
       clear BK275
       clear BK285
       clear HB
       have HO_286004 := n0_
       have BK274 := n1_
       have BK275 := n2_
       have BK285 := n3_
       have HB := n4_
       clear n0_ n1_ n2_ n3_ n4_
       obtain ⟨Ao34, co34, eo34⟩ := Kd.R_slice HO_286004.out
       (first | subst eo34 | (injection eo34 with f1_ f2_ f3_; have f4_ := f1_.symm; have f5_ := f3_.symm; clear f1_ f2_ f3_; subst f4_; subst f5_))
       have p289 : 0 ≤ (x25_1 : Int) := of_decide_eq_true (by first | (with_reducible assumption) | assumption)
       have q289 : x25_1 < (x286004_1.length : Int) := of_decide_eq_true (by first | (with_reducible assumption) | assumption)
       obtain ⟨ad289, e289, hx289_0, hx289_1, hx289_2, hx289_3, hx289_4, hx289_5⟩ := at_T38 (Kd.R_reads' HO_286004.out).2.2 x25_1 p289 q289
       cases e289
       replace p289 := eq_true p289
       replace q289 := eq_true q289
       refine start_ (n := 14) (S := fun w' => w'.cell? ⟨gb285, 0, none⟩ = some (.int .i64 t277) ∧ w'.cell? ⟨gb285, 1, none⟩ = some (.int .i64 t286) ∧ w'.cell? ⟨gb285, 2, none⟩ = some (.int .i64 t287) ∧ w'.cell? ⟨gb285, 3, none⟩ = some (.int .i64 t288) ∧ w'.cell? ⟨gb285, 4, none⟩ = some (.slice (some ad289) x286004_1.length co34) ∧ w'.cell? (ad289.add ((x25_1).toNat * 6)) = some (.int .i64 ((rd_T38 x286004_1 x25_1).f0)) ∧ w'.cell? ⟨(ad289.add ((x25_1).toNat * 6)).block, (ad289.add ((x25_1).toNat * 6)).off + 1, none⟩ = some (.int .i64 ((rd_T38 x286004_1 x25_1).f1)) ∧ w'.cell? ⟨(ad289.add ((x25_1).toNat * 6)).block, (ad289.add ((x25_1).toNat * 6)).off + 2, none⟩ = some (.bool ((rd_T38 x286004_1 x25_1).f2)) ∧ w'.cell? ⟨(ad289.add ((x25_1).toNat * 6)).block, (ad289.add ((x25_1).toNat * 6)).off + 3, none⟩ = some (.int .i64 ((rd_T38 x286004_1 x25_1).f3.f0)) ∧ w'.cell? ⟨(ad289.add ((x25_1).toNat * 6)).block, (ad289.add ((x25_1).toNat * 6)).off + 4, none⟩ = some (.int .i64 ((rd_T38 x286004_1 x25_1).f3.f1)) ∧ w'.cell? ⟨(ad289.add ((x25_1).toNat * 6)).block, (ad289.add ((x25_1).toNat * 6)).off + 5, none⟩ = some (.int .i64 ((rd_T38 x286004_1 x25_1).f3.f2))) (ds := [13]) (bs 14 0) (by kernel_rfl) rfl rfl ⟨(blk_cell BK285.out 0).trans rfl, (blk_cell BK285.out 1).trans rfl, (blk_cell BK285.out 2).trans rfl, (blk_cell BK285.out 3).trans rfl, (blk_cell BK285.out 4).trans rfl, hx289_0, hx289_1, hx289_2, hx289_3, hx289_4, hx289_5⟩ (fun hHeld => ?_); refine with_tabW impl_FairRebase.tab8 impl_FairRebase.bits8 (fun HT_ HW_ => ?_)
       generalize wr.drew = w33 at HO_286004 BK274 BK275 BK285 HB hx289_0 hx289_1 hx289_2 hx289_3 hx289_4 hx289_5 hHeld ⊢
       refine pure_s (i := 0) (N := some 28) (bs 14 1) (any_of HT_.out (by kernel_rfl)) (h := ?_)
       refine pure_s (i := 2) (N := some 30) #[oT,oF,oT,oF,oF,oF,oF,oF,oF,oF,oF,oF,oF,oF] (any_of HT_.out (by kernel_rfl)) (h := ?_)
       refine pure_s (i := 3) (N := some 31) #[oT,oF,oT,oT,oF,oF,oF,oF,oF,oF,oF,oF,oF,oF] (any_of HT_.out (by kernel_rfl)) (h := ?_)
       refine pure_s (i := 5) (N := some 33) #[oT,oF,oT,oT,oF,oT,oF,oF,oF,oF,oF,oF,oF,oF] (any_of HT_.out (by kernel_rfl)) (h := ?_)
       refine pure_s (i := 9) (N := some 37) #[oT,oF,oT,oT,oF,oT,oF,oF,oF,oT,oF,oF,oF,oF] (any_of HT_.out (by kernel_rfl)) (h := ?_)
       refine take_ (i := 1) (N := some 29) (v := ?_) (a' := ?_) #[oT,oT,oT,oT,oF,oT,oF,oF,oF,oT,oF,oF,oF,oF] rfl rfl (take_ofW HT_.out HW_.out (by kernel_rfl)) (fun _ _ _ h => h) (Or.inl ⟨by rfl, ?_⟩) hHeld ?_ ?_
       rotate_left
       ·rintro w' ⟨s0, s1, s2, s3, s4, s5, s6, s7, s8, s9, s10⟩
        go_simp
        with_reducible rfl
       rotate_left
       ·simp only [Act.put, List.setIfInBounds_toArray, List.set_cons_zero, List.set_cons_succ, i64_w, i32_w]
        rfl
       refine take_ (i := 4) (N := some 32) (v := ?_) (a' := ?_) #[oT,oT,oT,oT,oT,oT,oF,oF,oF,oT,oF,oF,oF,oF] rfl rfl (take_ofW HT_.out HW_.out (by kernel_rfl)) (fun _ _ _ h => h) (Or.inl ⟨by rfl, ?_⟩) hHeld ?_ ?_
       rotate_left
       ·rintro w' ⟨s0, s1, s2, s3, s4, s5, s6, s7, s8, s9, s10⟩
        go_simp
        with_reducible rfl
       rotate_left
       ·simp only [Act.put, List.setIfInBounds_toArray, List.set_cons_zero, List.set_cons_succ, i64_w, i32_w]
        rfl
       refine pure_s (i := 6) (N := some 34) #[oT,oT,oT,oT,oT,oT,oT,oF,oF,oT,oF,oF,oF,oF] (any_of HT_.out (by kernel_rfl)) (h := ?_)
       refine pure_s (i := 7) (N := some 35) #[oT,oT,oT,oT,oT,oT,oT,oT,oF,oT,oF,oF,oF,oF] (any_of HT_.out (by kernel_rfl)) (h := ?_)
       refine take_ (i := 8) (N := some 36) (v := ?_) (a' := ?_) (bs 14 10) rfl rfl (take_ofW HT_.out HW_.out (by kernel_rfl)) (fun _ _ _ h => h) (Or.inl ⟨by rfl, ?_⟩) hHeld ?_ ?_
       rotate_left
       ·rintro w' ⟨s0, s1, s2, s3, s4, s5, s6, s7, s8, s9, s10⟩
        go_simp
        with_reducible rfl
       rotate_left
       ·simp only [Act.put, List.setIfInBounds_toArray, List.set_cons_zero, List.set_cons_succ, i64_w, i32_w]
        rfl
       refine one_ (i := 10) (N := some 38) (bs 14 11) rfl rfl (one_of HT_.out (by kernel_rfl)) (by decide) (fun K hK => ?_)
       refine goes_ Try.func68 (by kernel_rfl) rfl #[.agg #[.int .i64 ((rd_T38 x286004_1 x25_1).f3.f0), .int .i64 ((rd_T38 x286004_1 x25_1).f3.f1), .int .i64 ((rd_T38 x286004_1 x25_1).f3.f2)], .int .i64 t284] (by rfl) rfl rfl mt_ ?_
       with_reducible refine (impl_Lower.calls ((rd_T38 x286004_1 x25_1).f3.f0) ((rd_T38 x286004_1 x25_1).f3.f1) ((rd_T38 x286004_1 x25_1).f3.f2) t284 t290 t291 t292 _ A31.out).mono ?_
       rintro e w35 ⟨rfl, hb⟩
       have HS5_ := (hb.cell (World.block_lt_of_cell? _ _ (hHeld.2.2.2.2.2.1))).trans (hHeld.2.2.2.2.2.1)
       have HS6_ := (hb.cell (World.block_lt_of_cell? _ _ (hHeld.2.2.2.2.2.2.1))).trans (hHeld.2.2.2.2.2.2.1)
       have HS7_ := (hb.cell (World.block_lt_of_cell? _ _ (hHeld.2.2.2.2.2.2.2.1))).trans (hHeld.2.2.2.2.2.2.2.1)
       have HS8_ := (hb.cell (World.block_lt_of_cell? _ _ (hHeld.2.2.2.2.2.2.2.2.1))).trans (hHeld.2.2.2.2.2.2.2.2.1)
       have HS9_ := (hb.cell (World.block_lt_of_cell? _ _ (hHeld.2.2.2.2.2.2.2.2.2.1))).trans (hHeld.2.2.2.2.2.2.2.2.2.1)
       have HS10_ := (hb.cell (World.block_lt_of_cell? _ _ (hHeld.2.2.2.2.2.2.2.2.2.2))).trans (hHeld.2.2.2.2.2.2.2.2.2.2)
       refine ⟨_, rfl, ?_⟩
       have n0_ := Aside0.mk (Kd.R_below (kr_ HO_286004) hb)
       have n1_ := bb_ BK274 hb
       have n2_ := bb_ BK275 hb
       have n3_ := bb_ BK285 hb
       have n4_ := Aside0.mk (below_step (bf_ HB) hb)
       clear HO_286004
       clear BK274
       clear BK275
       clear BK285
       clear HB
       have HO_286004 := n0_
       have BK274 := n1_
       have BK275 := n2_
       have BK285 := n3_
       have HB := n4_
       clear n0_ n1_ n2_ n3_ n4_
       try clear hb
       try clear hb2
       try clear hk
       try clear hi
       have p32 : 0 ≤ (x25_1 : Int) := of_decide_eq_true (by first | (with_reducible assumption) | assumption)
       have q32 : (x25_1 : Int) < ((x286004_1.length : Int) : Int) := of_decide_eq_true (by first | (with_reducible assumption) | assumption)
       obtain ⟨go32, co32, eo32, gb32, gl32, cl32, HG32⟩ := Kd.R_form HO_286004.out (by omega)
       (first | cases eo32 | (injection eo32 with ea_ en_ ec_; (first | subst ea_ | (injection ea_ with ea_; subst ea_)); subst ec_; clear en_))
       have GB32 := Aside0.mk gb32
       have GG32 := Aside0.mk HG32
       clear gb32 gl32 HG32
       (first | simp only [add_plain] at hx289_0 | skip)
       (first | simp only [add_plain] at hx289_1 | skip)
       (first | simp only [add_plain] at hx289_2 | skip)
       (first | simp only [add_plain] at hx289_3 | skip)
       (first | simp only [add_plain] at hx289_4 | skip)
       (first | simp only [add_plain] at hx289_5 | skip)
       obtain ⟨ce32, hcl32, hM32, hcc32, hfr32⟩ := Kd.R_elem HO_286004.out z38 (x25_1 : Int) p32 q32
       obtain rfl := k38_openM hM32
       have hx32_0 : World.cell? _ ⟨go32, (x25_1 : Int).toNat * 6, none⟩ = some (.int .i64 ((rd_T38 x286004_1 x25_1).f0)) := hcc32 0 _ rfl
       have hx32_1 : World.cell? _ ⟨go32, (x25_1 : Int).toNat * 6 + 1, none⟩ = some (.int .i64 ((rd_T38 x286004_1 x25_1).f1)) := hcc32 1 _ rfl
       have hx32_2 : World.cell? _ ⟨go32, (x25_1 : Int).toNat * 6 + 2, none⟩ = some (.bool ((rd_T38 x286004_1 x25_1).f2)) := hcc32 2 _ rfl
       have hx32_3 : World.cell? _ ⟨go32, (x25_1 : Int).toNat * 6 + 3, none⟩ = some (.int .i64 ((rd_T38 x286004_1 x25_1).f3.f0)) := hcc32 3 _ rfl
       have hx32_4 : World.cell? _ ⟨go32, (x25_1 : Int).toNat * 6 + 4, none⟩ = some (.int .i64 ((rd_T38 x286004_1 x25_1).f3.f1)) := hcc32 4 _ rfl
       have hx32_5 : World.cell? _ ⟨go32, (x25_1 : Int).toNat * 6 + 5, none⟩ = some (.int .i64 ((rd_T38 x286004_1 x25_1).f3.f2)) := hcc32 5 _ rfl
       have hf32_0 : World.frozen? _ ⟨go32, (x25_1 : Int).toNat * 6, none⟩ = false := hfr32 0
       have hf32_1 : World.frozen? _ ⟨go32, (x25_1 : Int).toNat * 6 + 1, none⟩ = false := hfr32 1
       have hf32_2 : World.frozen? _ ⟨go32, (x25_1 : Int).toNat * 6 + 2, none⟩ = false := hfr32 2
       have hf32_3 : World.frozen? _ ⟨go32, (x25_1 : Int).toNat * 6 + 3, none⟩ = false := hfr32 3
       have hf32_4 : World.frozen? _ ⟨go32, (x25_1 : Int).toNat * 6 + 4, none⟩ = false := hfr32 4
       have hf32_5 : World.frozen? _ ⟨go32, (x25_1 : Int).toNat * 6 + 5, none⟩ = false := hfr32 5
       clear hcl32 hcc32 hfr32 hM32
       replace p32 := eq_true p32
       replace q32 := eq_true q32
       obtain ⟨ce36, hcl36, hM36, hcc36, hfr36⟩ := Kd.R_elem HO_286004.out z38 (x25_1 : Int) (of_decide_eq_true (by first | (with_reducible assumption) | assumption)) (by have h_ : (x25_1 : Int) < ((x286004_1.length : Int) : Int) := of_decide_eq_true (by first | (with_reducible assumption) | assumption); first | exact h_ | (have e_ := (Kd.R_reads' HO_286004.out).1; omega) | simpa using h_)
       obtain rfl := k38_openM hM36
       have HP36 := (Kd.R_seg HO_286004.out (x25_1 : Int) (of_decide_eq_true (by first | (with_reducible assumption) | assumption)) (by have h_ : (x25_1 : Int) < ((x286004_1.length : Int) : Int) := of_decide_eq_true (by first | (with_reducible assumption) | assumption); first | exact h_ | (have e_ := (Kd.R_reads' HO_286004.out).1; omega) | simpa using h_) (seg := [.int .i64 t290, .int .i64 t291, .int .i64 t292]) (j := 3) hcl36 hcc36 (show 6 ≤ 6 from by decide) (x' := (⟨(rd_T38 x286004_1 x25_1).f0, (rd_T38 x286004_1 x25_1).f1, (rd_T38 x286004_1 x25_1).f2, (⟨t290, t291, t292⟩ : S29)⟩ : S38)) (k38_mkM _ _ _ (⟨(rd_T38 x286004_1 x25_1).f0, (rd_T38 x286004_1 x25_1).f1, (rd_T38 x286004_1 x25_1).f2, (⟨t290, t291, t292⟩ : S29)⟩ : S38) ) (fun _ hk => by first | exact hk | grind)).1
       rw [← Ny293.out] at HP36
       have HQ36 := Aside0.mk HP36
       clear hcl36 hcc36 hfr36 hM36 HP36
       refine hK.out _ _ ⟨(blk_cell BK285.out 0).trans rfl, (blk_cell BK285.out 1).trans rfl, (blk_cell BK285.out 2).trans rfl, (blk_cell BK285.out 3).trans rfl, (blk_cell BK285.out 4).trans rfl, HS5_, HS6_, HS7_, HS8_, HS9_, HS10_⟩ (fun hHeld => ?_)
       clear hK K
       refine norm_ (a' := ?_) ?_ ?_
       rotate_left
       ·show Act.put _ (some 38) _ = _
        simp only [Act.put, List.setIfInBounds_toArray, List.set_cons_zero, List.set_cons_succ, i64_w, i32_w]
        rfl
       refine pure_s (i := 11) (N := some 39) (bs 14 12) (any_of HT_.out (by kernel_rfl)) (h := ?_)
       refine pure_s (i := 12) (N := some 40) (bs 14 13) (any_of HT_.out (by kernel_rfl)) (h := ?_)
       refine last_ (i := 13) (N := none) (bs 14 14) rfl rfl (one_of HT_.out (by kernel_rfl)) (by decide) (fun K hK => ?_)
       refine skip_ (w1 := ?_) (by rfl) rfl ?_ ?_
       rotate_left
       ·go_simp
        rfl
       refine hK.out _ _ ?_
       clear hK K
       refine done_ (done_of HT_.out (by kernel_rfl)) ?_
       try go_wp2
       go_roundg k1
       case measure => have := HK1.out; omega
       case rel => exact ⟨(wrap64 (x25_1 + 1)), (y293), (.slice (some ⟨go32, 0, none⟩) x286004_1.length co34), (by first | rfl | (simp; done) | (simp [*]; done)), H', ⟨by have := HK1.out; omega⟩, ⟨kr_ HQ36⟩, ⟨by (with_reducible repeat (first | refine blk_drewN ?_ _ | refine blk_drew ?_ | refine blk_alloc ?_ _)); refine blk_far ?_ (by have h_ := Kd.R_ne HO_286004.out BK274.out (by decide); intro e_; exact h_ (by rw [e_]; rfl)) _; (with_reducible repeat (first | refine blk_drewN ?_ _ | refine blk_drew ?_ | refine blk_alloc ?_ _)); refine blk_far ?_ (by have h_ := Kd.R_ne HO_286004.out BK274.out (by decide); intro e_; exact h_ (by rw [e_]; rfl)) _; (with_reducible repeat (first | refine blk_drewN ?_ _ | refine blk_drew ?_ | refine blk_alloc ?_ _)); refine blk_far ?_ (by have h_ := Kd.R_ne HO_286004.out BK274.out (by decide); intro e_; exact h_ (by rw [e_]; rfl)) _; exact bk_ BK274⟩, ⟨by (with_reducible repeat (first | refine blk_drewN ?_ _ | refine blk_drew ?_ | refine blk_alloc ?_ _)); refine blk_far ?_ (by have h_ := Kd.R_ne HO_286004.out BK275.out (by decide); intro e_; exact h_ (by rw [e_]; rfl)) _; (with_reducible repeat (first | refine blk_drewN ?_ _ | refine blk_drew ?_ | refine blk_alloc ?_ _)); refine blk_far ?_ (by have h_ := Kd.R_ne HO_286004.out BK275.out (by decide); intro e_; exact h_ (by rw [e_]; rfl)) _; (with_reducible repeat (first | refine blk_drewN ?_ _ | refine blk_drew ?_ | refine blk_alloc ?_ _)); refine blk_far ?_ (by have h_ := Kd.R_ne HO_286004.out BK275.out (by decide); intro e_; exact h_ (by rw [e_]; rfl)) _; exact bk_ BK275⟩, ⟨by (with_reducible repeat (first | refine blk_drewN ?_ _ | refine blk_drew ?_ | refine blk_alloc ?_ _)); refine blk_far ?_ (by have h_ := Kd.R_ne HO_286004.out BK285.out (by decide); intro e_; exact h_ (by rw [e_]; rfl)) _; (with_reducible repeat (first | refine blk_drewN ?_ _ | refine blk_drew ?_ | refine blk_alloc ?_ _)); refine blk_far ?_ (by have h_ := Kd.R_ne HO_286004.out BK285.out (by decide); intro e_; exact h_ (by rw [e_]; rfl)) _; (with_reducible repeat (first | refine blk_drewN ?_ _ | refine blk_drew ?_ | refine blk_alloc ?_ _)); refine blk_far ?_ (by have h_ := Kd.R_ne HO_286004.out BK285.out (by decide); intro e_; exact h_ (by rw [e_]; rfl)) _; exact bk_ BK285⟩, ⟨by repeat (first | (with_reducible first | exact HB.out | apply below_alloc | apply pw_below_drewN | apply below_drew1 | refine below_set ?_ GB32.out | refine below_set ?_ GB32.out | refine below_set ?_ GB32.out | refine below_set ?_ GE274.out | refine below_set ?_ GE275.out | refine below_set ?_ GE285.out) | exact HB.out)⟩⟩
      ·rw [if_neg c30] at H
       exact absurd H (by simp)
     ·rw [if_neg c29] at H
      exact absurd H (by simp)
    ·rw [if_neg c28] at H
     have c28b0 : decide (x25_1 < (t281.length : Int)) = false := decide_eq_false c28
     clear c28
     simp only [Option.some.injEq, Prod.mk.injEq] at H
     obtain ⟨rfl, rfl, rfl, rfl, rfl⟩ := H
     have hnb37 := NB285_274.out
     have hnc37 := NB274_285.out
     have hnb38 := NB285_275.out
     have hnc38 := NB275_285.out
     have hcz39_0 := bc_ BK285 0 (.int .i64 t277) rfl
     have hcz39_1 := bc_ BK285 1 (.int .i64 t286) rfl
     have hcz39_2 := bc_ BK285 2 (.int .i64 t287) rfl
     have hcz39_3 := bc_ BK285 3 (.int .i64 t288) rfl
     have hcz39_4 := bc_ BK285 4 (u286004) rfl
     have hfz39_0 := blk_frozen BK285.out 0
     have hfz39_1 := blk_frozen BK285.out 1
     have hfz39_2 := blk_frozen BK285.out 2
     have hfz39_3 := blk_frozen BK285.out 3
     have hfz39_4 := blk_frozen BK285.out 4
     have hnb40 := NB275_274.out
     have hnc40 := NB274_275.out
     have hcz41_0 := bc_ BK275 0 (.int .i64 0) rfl
     have hcz41_1 := bc_ BK275 1 (.int .i64 0) rfl
     have hcz41_2 := bc_ BK275 2 (.int .i64 0) rfl
     have hcz41_3 := bc_ BK275 3 (.int .i64 0) rfl
     have hcz41_4 := bc_ BK275 4 (.slice none 0 0) rfl
     have hfz41_0 := blk_frozen BK275.out 0
     have hfz41_1 := blk_frozen BK275.out 1
     have hfz41_2 := blk_frozen BK275.out 2
     have hfz41_3 := blk_frozen BK275.out 3
     have hfz41_4 := blk_frozen BK275.out 4
     obtain ⟨Ao42, co42, eo42⟩ := Kd.R_slice HO_286004.out
     subst eo42
     go_wp2
     refine bodyPost_ret (results_cell_row rfl _ _ gb275 32 #[.int .i64 t277, .int .i64 t286, .int .i64 t287, .int .i64 t288, .slice Ao42 x286004_1.length co42] (0, 0) _ rfl (by (with_reducible repeat (first | refine blk_drewN ?_ _ | refine blk_drew ?_ | refine blk_alloc ?_ _)); refine blk_put (cs := #[.int .i64 t277, .int .i64 t286, .int .i64 t287, .int .i64 t288, .slice none 0 0]) ?_ 4 _ rfl; (with_reducible repeat (first | refine blk_drewN ?_ _ | refine blk_drew ?_ | refine blk_alloc ?_ _)); refine blk_put (cs := #[.int .i64 t277, .int .i64 t286, .int .i64 t287, .int .i64 0, .slice none 0 0]) ?_ 3 _ rfl; (with_reducible repeat (first | refine blk_drewN ?_ _ | refine blk_drew ?_ | refine blk_alloc ?_ _)); refine blk_put (cs := #[.int .i64 t277, .int .i64 t286, .int .i64 0, .int .i64 0, .slice none 0 0]) ?_ 2 _ rfl; (with_reducible repeat (first | refine blk_drewN ?_ _ | refine blk_drew ?_ | refine blk_alloc ?_ _)); refine blk_put (cs := #[.int .i64 t277, .int .i64 0, .int .i64 0, .int .i64 0, .slice none 0 0]) ?_ 1 _ rfl; (with_reducible repeat (first | refine blk_drewN ?_ _ | refine blk_drew ?_ | refine blk_alloc ?_ _)); refine blk_put (cs := #[.int .i64 0, .int .i64 0, .int .i64 0, .int .i64 0, .slice none 0 0]) ?_ 0 _ rfl; exact bk_ BK275) Try.underlying32 rfl (by kernel_rfl)) rfl ?_
     exact ⟨_, by first | rfl | (simp [errW_none, errW_some] <;> rfl) | (simp [*, errW_none, errW_some] <;> rfl), by (with_reducible repeat (first | apply Kd.R_alloc | apply Kd.R_drewN | apply Kd.R_drew)); exact Kd.R_mono (Kd.R_far (p := ⟨gb275, 4, none⟩) (Kd.R_far (p := ⟨gb275, 3, none⟩) (Kd.R_far (p := ⟨gb275, 2, none⟩) (Kd.R_far (p := ⟨gb275, 1, none⟩) (Kd.R_far (p := ⟨gb275, 0, none⟩) (Kd.R_types HO_286004.out BK275.out (by decide)) (fun _ hk => by first | exact hk.2 | grind) (.int .i64 t277)) (fun _ hk => by first | exact hk.2 | grind) (.int .i64 t286)) (fun _ hk => by first | exact hk.2 | grind) (.int .i64 t287)) (fun _ hk => by first | exact hk.2 | grind) (.int .i64 t288)) (fun _ hk => by first | exact hk.2 | grind) (.slice Ao42 x286004_1.length co42)) (fun _ hk => by first | exact trivial | grind), bf_ HB⟩
 ·replace c3 := Bool.eq_false_iff.mpr c3
  subst c3
  have H1 : (some (0, 0, 0, 0, ([] : List (S38)))) = some (r1, r2, r3, r4, r5) := by rw [if_neg (show ¬ (false = true) by decide)] at H; exact H
  clear H
  have H := H1
  clear H1
  simp only [Option.some.injEq, Prod.mk.injEq] at H
  obtain ⟨rfl, rfl, rfl, rfl, rfl⟩ := H
  go_enter Try.func32, Try.ntmps32
  go_wp2_with (first | ((with_reducible refine gate_dst (N := 1) rfl ?_); refine box_event ?hg (N := 1) ?hd (cs := #[.int .i64 a0_0, .int .i64 a0_1, .int .i64 a0_2, .int .i64 a0_3, .slice A0_4 l0_4.length c0_4]) (t := 32) ?hr ?_; (case hd => rfl); (case hg => rfl); (case hr => first | (go_simp; done) | (go_simp; rfl)); intro gb274 hg w43 hbox hb; have n0_ := Aside0.mk (below_step (be_ HB) hb); have n1_ := Aside0.mk (hbox); have n2_ := Aside0.mk ((by rw [hg]; exact (below_size (be_ HB)) : w.heap.size ≤ gb274)); have n3_ := Aside0.mk ((by rw [hg]; exact (below_size (be_ HB)) : w.heap.size ≤ gb274)); clear HB; have HB := n0_; have BK274 := n1_; have GW274 := n2_; have GE274 := n3_; clear n0_ n1_ n2_ n3_; clear hb hbox hg) | ((with_reducible refine gate_dst (N := 2) rfl ?_); refine box_event ?hg (N := 2) ?hd (cs := #[.int .i64 0, .int .i64 0, .int .i64 0, .int .i64 0, .slice none 0 0]) (t := 32) ?hr ?_; (case hd => rfl); (case hg => rfl); (case hr => first | (go_simp; done) | (go_simp; rfl)); intro gb275 hg w44 hbox hb; have n0_ := bb_ BK274 hb; have n1_ := Aside0.mk (below_step (bf_ HB) hb); have n2_ := Aside0.mk (hbox); have n3_ := Aside0.mk ((by rw [hg]; exact (below_size (bf_ HB)) : w.heap.size ≤ gb275)); have n4_ := Aside0.mk ((by rw [hg]; exact (below_size (bf_ HB)) : w.heap.size ≤ gb275)); have n5_ := Aside0.mk ((by rw [hg]; exact Nat.ne_of_lt (blk_lt (g := gb274) (o := .cells #[.int .i64 a0_0, .int .i64 a0_1, .int .i64 a0_2, .int .i64 a0_3, .slice A0_4 l0_4.length c0_4] 32 (0, 0)) (bk_ BK274)) : gb274 ≠ gb275)); have n6_ := Aside0.mk ((by rw [hg]; exact Nat.ne_of_gt (blk_lt (g := gb274) (o := .cells #[.int .i64 a0_0, .int .i64 a0_1, .int .i64 a0_2, .int .i64 a0_3, .slice A0_4 l0_4.length c0_4] 32 (0, 0)) (bk_ BK274)) : gb275 ≠ gb274)); clear BK274; clear HB; have BK274 := n0_; have HB := n1_; have BK275 := n2_; have GW275 := n3_; have GE275 := n4_; have NB274_275 := n5_; have NB275_274 := n6_; clear n0_ n1_ n2_ n3_ n4_ n5_ n6_; clear hb hbox hg; have hnb45 := NB274_275.out; have hnc45 := NB275_274.out; have hcz46_0 := bc_ BK274 0 (.int .i64 a0_0) rfl; have hcz46_1 := bc_ BK274 1 (.int .i64 a0_1) rfl; have hcz46_2 := bc_ BK274 2 (.int .i64 a0_2) rfl; have hcz46_3 := bc_ BK274 3 (.int .i64 a0_3) rfl; have hcz46_4 := bc_ BK274 4 (.slice A0_4 l0_4.length c0_4) rfl; have hfz46_0 := blk_frozen BK274.out 0; have hfz46_1 := blk_frozen BK274.out 1; have hfz46_2 := blk_frozen BK274.out 2; have hfz46_3 := blk_frozen BK274.out 3; have hfz46_4 := blk_frozen BK274.out 4) | ((with_reducible refine gate_callee (f := 18) rfl ?_); refine goesL_ (some 7) rfl rfl Try.func18 (by kernel_rfl) rfl #[.agg #[.int .i64 a0_0, .int .i64 a0_1, .int .i64 a0_2, .int .i64 a0_3, .slice A0_4 l0_4.length c0_4]] rfl mt_ ?_; (with_reducible refine (impl_FairOk.calls k a0_0 a0_1 a0_2 a0_3 _ _ l0_4 false _ ?side1 ?side2 A2.out).mono ?_); (case side1 => repeat (first | exact (Kd.C_below HR0_4.out HB.out) | (with_reducible refine Kd.C_alloc ?_ _) | (with_reducible refine Kd.C_drewN ?_ _) | (with_reducible refine Kd.C_drew ?_))); (case side2 => exact HC0_4.out); rintro e w47 ⟨rfl, hb⟩; refine ⟨_, rfl, ?_⟩; have n0_ := bb_ BK274 hb; have n1_ := bb_ BK275 hb; have n2_ := Aside0.mk (below_step (bf_ HB) hb); clear BK274; clear BK275; clear HB; have BK274 := n0_; have BK275 := n1_; have HB := n2_; clear n0_ n1_ n2_; (try clear hb); (try clear hb2); (try clear hk); (try clear hi); have hcz48_0 := bc_ BK275 0 (.int .i64 0) rfl; have hcz48_1 := bc_ BK275 1 (.int .i64 0) rfl; have hcz48_2 := bc_ BK275 2 (.int .i64 0) rfl; have hcz48_3 := bc_ BK275 3 (.int .i64 0) rfl; have hcz48_4 := bc_ BK275 4 (.slice none 0 0) rfl; have hfz48_0 := blk_frozen BK275.out 0; have hfz48_1 := blk_frozen BK275.out 1; have hfz48_2 := blk_frozen BK275.out 2; have hfz48_3 := blk_frozen BK275.out 3; have hfz48_4 := blk_frozen BK275.out 4))
  refine bodyPost_ret (results_cell_row rfl _ _ gb275 32 #[.int .i64 0, .int .i64 0, .int .i64 0, .int .i64 0, .slice none 0 0] (0, 0) _ rfl (by (with_reducible repeat (first | refine blk_drewN ?_ _ | refine blk_drew ?_ | refine blk_alloc ?_ _)); refine blk_put (cs := #[.int .i64 0, .int .i64 0, .int .i64 0, .int .i64 0, .slice none 0 0]) ?_ 4 _ rfl; (with_reducible repeat (first | refine blk_drewN ?_ _ | refine blk_drew ?_ | refine blk_alloc ?_ _)); refine blk_put (cs := #[.int .i64 0, .int .i64 0, .int .i64 0, .int .i64 0, .slice none 0 0]) ?_ 3 _ rfl; (with_reducible repeat (first | refine blk_drewN ?_ _ | refine blk_drew ?_ | refine blk_alloc ?_ _)); refine blk_put (cs := #[.int .i64 0, .int .i64 0, .int .i64 0, .int .i64 0, .slice none 0 0]) ?_ 2 _ rfl; (with_reducible repeat (first | refine blk_drewN ?_ _ | refine blk_drew ?_ | refine blk_alloc ?_ _)); refine blk_put (cs := #[.int .i64 0, .int .i64 0, .int .i64 0, .int .i64 0, .slice none 0 0]) ?_ 1 _ rfl; (with_reducible repeat (first | refine blk_drewN ?_ _ | refine blk_drew ?_ | refine blk_alloc ?_ _)); refine blk_put (cs := #[.int .i64 0, .int .i64 0, .int .i64 0, .int .i64 0, .slice none 0 0]) ?_ 0 _ rfl; exact bk_ BK275) Try.underlying32 rfl (by kernel_rfl)) rfl ?_
  exact ⟨_, by first | rfl | (simp [errW_none, errW_some] <;> rfl) | (simp [*, errW_none, errW_some] <;> rfl), by first | exact Kd.R_nil _ _ _ _ _ | exact Kd.N_nil _ _ _ _ _ | exact Kd.V_nil _ _ _ _ _ | exact Kd.Q_nil _ _ _ _ _ | exact Kd.S_nil _ _ _ _ _, bf_ HB⟩

end Go.Proofs.Ytljhaoiopokmfaa.PFnExactFairRebase
