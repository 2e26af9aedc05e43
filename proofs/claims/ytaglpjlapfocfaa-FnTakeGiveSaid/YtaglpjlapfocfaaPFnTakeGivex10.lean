-- printed by a program of this session (wip/printx) out of the translation; Lean checks it
import Derived.Test.YtaglpjlapfocfaaPFnTakeGivex0
import Derived.Test.YtaglpjlapfocfaaPFnTakeGivex6
import Derived.Test.YtaglpjlapfocfaaPFnTakeGivex7
import Derived.Test.YtaglpjlapfocfaaPFnTakeGivex8
import Derived.Test.YtaglpjlapfocfaaPFnTakeGivex9
namespace Go.Proofs.Ytaglpjlapfocfaa.PFnTakeGive
open Go.RowKit Go.Proofs.YtaglpjlapfocfaaW.PrintWords Go.Proofs.YtaglpjlapfocfaaW.PrintLast Go.Proofs.YtaglpjlapfocfaaW.PrintMore
attribute [local go_sem] max2_int min2_int max_two min_two max_three min_three max_four min_four   -- for this text's walks alone
set_option linter.unusedVariables false
set_option linter.unusedSimpArgs false

/-! ### spec_l01Cur_slab: function 82 -/
mutual
def spec_l01Cur_slab.l0 : Nat → Int → List Int → Int → Int → Int → List Int → Option (Int × List Int × Int × Int)
  | 0, _, _, _, _, _, _ => none
  | k + 1, x4, x1000, x1001, x1002, x285000, x285001 => if x4 > 0 then ((spec_l01Cur_once.f x1000 x1001 x1002 3).bind fun bt288 => (if bt288.1 = true then (spec_l01Cur_slab.j1 k x4 (decide ((x285001.length : Int) > 0)) x1000 bt288.2.1 bt288.2.2 x285000 x285001) else (spec_l01Cur_slab.j1 k x4 false x1000 bt288.2.1 bt288.2.2 x285000 x285001))) else (some (x285000, x285001, x1001, x1002))
def spec_l01Cur_slab.j1 : Nat → Int → Bool → List Int → Int → Int → Int → List Int → Option (Int × List Int × Int × Int)
  | 0, _, _, _, _, _, _, _ => none
  | k + 1, x4, x30, x1000, x1001, x1002, x285000, x285001 => if x30 = true then ((spec_l01Cur_pick.f x1000 x1001 x1002 (x285001.length : Int)).bind fun bt291 => ((spec_SlabGive.f k x285000 x285001 bt291.1).bind fun bt294 => (if bt294.2.2 = 0 then (spec_l01Cur_slab.l0 k (wrap64 (x4 - 1)) x1000 bt291.2.1 bt291.2.2 bt294.1 bt294.2.1) else (spec_l01Cur_slab.l0 k (wrap64 (x4 - 1)) x1000 bt291.2.1 bt291.2.2 x285000 x285001)))) else ((spec_l01Cur_pick.f x1000 x1001 x1002 5).bind fun bt300 => ((spec_SlabTake.f k x285000 x285001 (wrap64 (1 + bt300.1))).bind fun bt303 => (if bt303.2.2.2 = 0 then (spec_l01Cur_slab.l0 k (wrap64 (x4 - 1)) x1000 bt300.2.1 bt300.2.2 bt303.1 bt303.2.1) else (spec_l01Cur_slab.l0 k (wrap64 (x4 - 1)) x1000 bt300.2.1 bt300.2.2 x285000 x285001))))
end
def spec_l01Cur_slab.f (k : Nat) (s0_0 : List Int) (s0_1 : Int) (s0_2 : Int) : Option (Int × List Int × Int × Int) := (spec_l01Cur_pick.f s0_0 s0_1 s0_2 24).bind fun bt274 => ((spec_l01Cur_pick.f s0_0 bt274.2.1 bt274.2.2 2).bind fun bt277 => ((spec_SlabNew.f k (wrap64 (bt274.1 + (wrap64 (bt277.1 * 90))))).bind fun bt280 => ((spec_l01Cur_size.f s0_0 bt277.2.1 bt277.2.2 20).bind fun bt285 => (spec_l01Cur_slab.l0 k bt285.1 s0_0 bt285.2.1 bt285.2.2 bt280.1 bt280.2))))
theorem spec_l01Cur_slab.mono_l : ∀ k, (∀ y0 y1 y2 y3 y4 y5, LeO (spec_l01Cur_slab.l0 k y0 y1 y2 y3 y4 y5) (spec_l01Cur_slab.l0 (k + 1) y0 y1 y2 y3 y4 y5)) ∧ (∀ y0 y1 y2 y3 y4 y5 y6, LeO (spec_l01Cur_slab.j1 k y0 y1 y2 y3 y4 y5 y6) (spec_l01Cur_slab.j1 (k + 1) y0 y1 y2 y3 y4 y5 y6))
 | 0 => ⟨fun _ _ _ _ _ _ r h => by simp [spec_l01Cur_slab.l0] at h, fun _ _ _ _ _ _ _ r h => by simp [spec_l01Cur_slab.j1] at h⟩
 | k + 1 => by
  obtain ⟨ih0, ih1⟩ := spec_l01Cur_slab.mono_l k
  refine ⟨?_, ?_⟩
  ·intro y0 y1 y2 y3 y4 y5
   unfold spec_l01Cur_slab.l0
   repeat' first
   | (with_reducible exact ih0 _ _ _ _ _ _)
   | (with_reducible exact ih1 _ _ _ _ _ _ _)
   | (with_reducible exact spec_SlabGive.mono _ _ _ _)
   | (with_reducible exact spec_SlabNew.mono _ _)
   | (with_reducible exact spec_SlabTake.mono _ _ _ _)
   | (with_reducible exact LeO.refl _)
   | (with_reducible exact LeO.none _)
   | (with_reducible refine LeO.ite ?_ ?_)
   | (with_reducible refine LeO.bind ?_ (fun _ => ?_))
   | exact ih0 _ _ _ _ _ _
   | exact ih1 _ _ _ _ _ _ _
   | exact spec_SlabGive.mono _ _ _ _
   | exact spec_SlabNew.mono _ _
   | exact spec_SlabTake.mono _ _ _ _
   | exact LeO.none _
   | refine LeO.ite ?_ ?_
   | refine LeO.bind ?_ (fun _ => ?_)
  ·intro y0 y1 y2 y3 y4 y5 y6
   unfold spec_l01Cur_slab.j1
   repeat' first
   | (with_reducible exact ih0 _ _ _ _ _ _)
   | (with_reducible exact ih1 _ _ _ _ _ _ _)
   | (with_reducible exact spec_SlabGive.mono _ _ _ _)
   | (with_reducible exact spec_SlabNew.mono _ _)
   | (with_reducible exact spec_SlabTake.mono _ _ _ _)
   | (with_reducible exact LeO.refl _)
   | (with_reducible exact LeO.none _)
   | (with_reducible refine LeO.ite ?_ ?_)
   | (with_reducible refine LeO.bind ?_ (fun _ => ?_))
   | exact ih0 _ _ _ _ _ _
   | exact ih1 _ _ _ _ _ _ _
   | exact spec_SlabGive.mono _ _ _ _
   | exact spec_SlabNew.mono _ _
   | exact spec_SlabTake.mono _ _ _ _
   | exact LeO.none _
   | refine LeO.ite ?_ ?_
   | refine LeO.bind ?_ (fun _ => ?_)
theorem spec_l01Cur_slab.mono : ∀ a0 a1 a2 k, LeO (spec_l01Cur_slab.f k a0 a1 a2) (spec_l01Cur_slab.f (k + 1) a0 a1 a2) := by
 intro a0 a1 a2 k
 obtain ⟨ih0, ih1⟩ := spec_l01Cur_slab.mono_l k
 unfold spec_l01Cur_slab.f
 repeat' first
   | (with_reducible exact ih0 _ _ _ _ _ _)
   | (with_reducible exact ih1 _ _ _ _ _ _ _)
   | (with_reducible exact spec_SlabGive.mono _ _ _ _)
   | (with_reducible exact spec_SlabNew.mono _ _)
   | (with_reducible exact spec_SlabTake.mono _ _ _ _)
   | (with_reducible exact LeO.refl _)
   | (with_reducible exact LeO.none _)
   | (with_reducible refine LeO.ite ?_ ?_)
   | (with_reducible refine LeO.bind ?_ (fun _ => ?_))
   | exact ih0 _ _ _ _ _ _
   | exact ih1 _ _ _ _ _ _ _
   | exact spec_SlabGive.mono _ _ _ _
   | exact spec_SlabNew.mono _ _
   | exact spec_SlabTake.mono _ _ _ _
   | exact LeO.none _
   | refine LeO.ite ?_ ?_
   | refine LeO.bind ?_ (fun _ => ?_)
def spec_l01Cur_slab.T6 : Bool × List (List Nat × List Nat) := (true, [([], []), ([], []), ([], []), ([2], [2]), ([3], [3]), ([1, 4], [1, 4]), ([0, 5, 5], [0, 5]), ([6], [6]), ([7], [7]), ([7], [7]), ([], []), ([10, 8, 6, 0, 1, 2, 3, 4, 5, 6, 7, 8, 10], [8, 10]), ([9, 11, 0, 1, 2, 3, 4, 5, 6, 7, 8, 9, 10, 11], [9])])
def spec_l01Cur_slab.B6 : List Nat := [0, 0, 0, 4, 12, 30, 63, 127, 255, 255, 0, 1535, 4095]
theorem spec_l01Cur_slab.tab6 : rtab .any (opsOf Try.f82 6) = spec_l01Cur_slab.T6 := by kernel_rfl
theorem spec_l01Cur_slab.bits6 : waitsOk spec_l01Cur_slab.T6.2 spec_l01Cur_slab.B6 = true := by kernel_rfl
def spec_l01Cur_slab.T9 : Bool × List (List Nat × List Nat) := (true, [([], []), ([], []), ([1], [1]), ([2], [2]), ([0, 3, 2], [0, 3]), ([4], [4]), ([5], [5]), ([5], [5]), ([5], [5]), ([], []), ([9, 6, 4, 0, 1, 2, 3, 4, 5, 6, 9], [6, 9]), ([7, 10, 0, 1, 2, 3, 4, 5, 6, 7, 9, 10], [7]), ([8, 11, 0, 1, 2, 3, 4, 5, 6, 7, 8, 9, 10, 11], [8])])
def spec_l01Cur_slab.B9 : List Nat := [0, 0, 2, 6, 15, 31, 63, 63, 63, 0, 639, 1791, 4095]
theorem spec_l01Cur_slab.tab9 : rtab .any (opsOf Try.f82 9) = spec_l01Cur_slab.T9 := by kernel_rfl
theorem spec_l01Cur_slab.bits9 : waitsOk spec_l01Cur_slab.T9.2 spec_l01Cur_slab.B9 = true := by kernel_rfl
set_option maxHeartbeats 8000000 in
set_option maxRecDepth 100000 in
theorem spec_l01Cur_slab.calls (k : Nat) (g : Nat) (s0_0 : List Int) (s0_1 : Int) (s0_2 : Int) (r1 : Int) (r2 : List Int) (r3 : Int) (r4 : Int) (w0 w : World) (hI : IsS85 w0 w g s0_0 s0_1 s0_2) (hB : Below w0.heap.size w0 w) (h : spec_l01Cur_slab.f k s0_0 s0_1 s0_2 = some (r1, r2, r3, r4)) :
  Calls Try.prog 82 #[.pointer (some ⟨g, 0, none⟩)] w fun e w' => ∃ v1_ : Value, e = .returned (.agg #[.int .i64 r1, v1_]) ∧ Kd.R (Kd.int .i64) 3 w' w.heap.size (fun _ => True) v1_ r2 ∧ IsS85 w0 w' g s0_0 r3 r4 ∧ Below w0.heap.size w0 w' ∧ KeepBut w w' g none := by
 have hu24 := Try.underlying24
 have HI0 := Aside0.mk hI
 have HK := Aside0.mk (KeepBut.refl w g none)
 have HL := Aside0.mk hB.size
 clear hI
 have HW0 := Aside0.mk hB.size
 have HB := Aside0.mk hB
 clear hB
 have H : ((spec_l01Cur_pick.f s0_0 s0_1 s0_2 24).bind fun bt274 => ((spec_l01Cur_pick.f s0_0 bt274.2.1 bt274.2.2 2).bind fun bt277 => ((spec_SlabNew.f k (wrap64 (bt274.1 + (wrap64 (bt277.1 * 90))))).bind fun bt280 => ((spec_l01Cur_size.f s0_0 bt277.2.1 bt277.2.2 20).bind fun bt285 => (spec_l01Cur_slab.l0 k bt285.1 s0_0 bt285.2.1 bt285.2.2 bt280.1 bt280.2))))) = some (r1, r2, r3, r4) := h
 clear h
 replace H := Option.bind_eq_some_iff.mp H
 obtain ⟨⟨t274, t275, t276⟩, A20, H⟩ := H
 replace H : ((spec_l01Cur_pick.f s0_0 t275 t276 2).bind fun bt277 => ((spec_SlabNew.f k (wrap64 (t274 + (wrap64 (bt277.1 * 90))))).bind fun bt280 => ((spec_l01Cur_size.f s0_0 bt277.2.1 bt277.2.2 20).bind fun bt285 => (spec_l01Cur_slab.l0 k bt285.1 s0_0 bt285.2.1 bt285.2.2 bt280.1 bt280.2)))) = some (r1, r2, r3, r4) := H
 have A2 := Aside0.mk A20
 clear A20
 replace H := Option.bind_eq_some_iff.mp H
 obtain ⟨⟨t277, t278, t279⟩, A30, H⟩ := H
 replace H : ((spec_SlabNew.f k (wrap64 (t274 + (wrap64 (t277 * 90))))).bind fun bt280 => ((spec_l01Cur_size.f s0_0 t278 t279 20).bind fun bt285 => (spec_l01Cur_slab.l0 k bt285.1 s0_0 bt285.2.1 bt285.2.2 bt280.1 bt280.2))) = some (r1, r2, r3, r4) := H
 have A3 := Aside0.mk A30
 clear A30
 replace H := Option.bind_eq_some_iff.mp H
 obtain ⟨⟨t280, t281⟩, A40, H⟩ := H
 replace H : ((spec_l01Cur_size.f s0_0 t278 t279 20).bind fun bt285 => (spec_l01Cur_slab.l0 k bt285.1 s0_0 bt285.2.1 bt285.2.2 t280 t281)) = some (r1, r2, r3, r4) := H
 have A4 := Aside0.mk A40
 clear A40
 replace H := Option.bind_eq_some_iff.mp H
 obtain ⟨⟨t285, t286, t287⟩, A50, H⟩ := H
 replace H : (spec_l01Cur_slab.l0 k t285 s0_0 t286 t287 t280 t281) = some (r1, r2, r3, r4) := H
 have A5 := Aside0.mk A50
 clear A50
 have H' := Aside0.mk H
 clear H
 go_enter Try.func82, Try.ntmps82
 go_wp2_with (first | ((with_reducible refine gate_dst (N := 2) rfl ?_); (try (refine gate_guard (by rfl) ?_; dsimp only)); refine box_event ?hg (N := 2) ?hd (cs := #[.int .i64 0, .slice none 0 0]) (t := 24) ?hr ?_; (case hd => rfl); (case hg => rfl); (case hr => first | (go_simp; done) | (go_simp; rfl)); intro gb273 hg w6 hbox hb; have n0_ := Aside0.mk (IsS85.below (by repeat (first | (with_reducible first | exact HI0.out | apply IsS85.alloc | apply IsS85.drewN | apply IsS85.drew | apply IsS85.set_1 | apply IsS85.set_2) | exact HI0.out)) hb); have n1_ := Aside0.mk (KeepBut.trans (by repeat (first | (with_reducible first | exact HK.out | apply KeepBut.set_ | apply keep_drewN | apply keep_drew | apply keep_alloc) | exact HK.out)) (KeepBut.of_below hb g none) (.inl rfl)); have n2_ := Aside0.mk (below_step (by repeat (first | (with_reducible first | exact HB.out | apply below_alloc | apply pw_below_drewN | apply below_drew1 | refine below_set ?_ (IsS85.ge HI0.out)) | exact HB.out)) hb); have n3_ := Aside0.mk (hbox); have n4_ := Aside0.mk ((by rw [hg]; exact (keep_size (w := w) (g := g) (row := none) (by repeat (first | (with_reducible first | exact HK.out | apply KeepBut.set_ | apply keep_drewN | apply keep_drew | apply keep_alloc) | exact HK.out))) : w.heap.size ≤ gb273)); have n5_ := Aside0.mk ((Nat.le_trans HW0.out (by rw [hg]; exact (keep_size (w := w) (g := g) (row := none) (by repeat (first | (with_reducible first | exact HK.out | apply KeepBut.set_ | apply keep_drewN | apply keep_drew | apply keep_alloc) | exact HK.out))) : w.heap.size ≤ gb273) : w0.heap.size ≤ gb273)); have n6_ := Aside0.mk ((by rw [hg]; exact Nat.ne_of_lt (IsS85.lt (show IsS85 w0 _ g s0_0 s0_1 s0_2 from by repeat (first | (with_reducible first | exact HI0.out | apply IsS85.alloc | apply IsS85.drewN | apply IsS85.drew | apply IsS85.set_1 | apply IsS85.set_2) | exact HI0.out))) : g ≠ gb273)); have n7_ := Aside0.mk ((by rw [hg]; exact Nat.ne_of_gt (IsS85.lt (show IsS85 w0 _ g s0_0 s0_1 s0_2 from by repeat (first | (with_reducible first | exact HI0.out | apply IsS85.alloc | apply IsS85.drewN | apply IsS85.drew | apply IsS85.set_1 | apply IsS85.set_2) | exact HI0.out))) : gb273 ≠ g)); clear HI0; clear HK; clear HB; have HI0 := n0_; have HK := n1_; have HB := n2_; have BK273 := n3_; have GW273 := n4_; have GE273 := n5_; have NB0_273 := n6_; have NB273_0 := n7_; clear n0_ n1_ n2_ n3_ n4_ n5_ n6_ n7_; clear hb hbox hg) | ((with_reducible refine gate_callee (f := 77) rfl ?_); refine goesL_ (some 11) rfl rfl Try.func77 (by kernel_rfl) rfl #[.pointer (some ⟨g, 0, none⟩), .int .i64 24] rfl mt_ ?_; (with_reducible refine (spec_l01Cur_pick.calls g s0_0 s0_1 s0_2 24 t274 t275 t276 w0 _ ?side1 ?side2 A2.out).mono ?_); (case side1 => repeat (first | (with_reducible first | exact HI0.out | apply IsS85.alloc | apply IsS85.drewN | apply IsS85.drew | apply IsS85.set_1 | apply IsS85.set_2 | refine IsS85.far ?_ NB0_273.out _) | exact HI0.out)); (case side2 => repeat (first | (with_reducible first | exact HB.out | apply below_alloc | apply pw_below_drewN | apply below_drew1 | refine below_set ?_ (IsS85.ge HI0.out) | refine below_set ?_ GE273.out) | exact HB.out)); rintro e w7 ⟨rfl, hi, hb, hk⟩; refine ⟨_, rfl, ?_⟩; have n0_ := Aside0.mk (KeepBut.blk hk (g' := gb273) (o := .cells #[.int .i64 0, .slice none 0 0] 24 (0, 0)) (bk_ BK273) NB273_0.out (by simp)); have n1_ := Aside0.mk (KeepBut.trans (by repeat (first | (with_reducible first | exact HK.out | apply KeepBut.set_ | apply keep_drewN | apply keep_drew | apply keep_alloc | refine keep_far ?_ GW273.out _) | exact HK.out)) hk (.inl rfl)); have n2_ := Aside0.mk (hb); have n3_ := Aside0.mk (hi); clear BK273; clear HK; clear HB; clear HI0; have BK273 := n0_; have HK := n1_; have HB := n2_; have HI0 := n3_; clear n0_ n1_ n2_ n3_; (try clear hb); (try clear hb2); (try clear hk); (try clear hi)) | ((with_reducible refine gate_callee (f := 77) rfl ?_); refine goesL_ (some 13) rfl rfl Try.func77 (by kernel_rfl) rfl #[.pointer (some ⟨g, 0, none⟩), .int .i64 2] rfl mt_ ?_; (with_reducible refine (spec_l01Cur_pick.calls g s0_0 t275 t276 2 t277 t278 t279 w0 _ ?side1 ?side2 A3.out).mono ?_); (case side1 => repeat (first | (with_reducible first | exact HI0.out | apply IsS85.alloc | apply IsS85.drewN | apply IsS85.drew | apply IsS85.set_1 | apply IsS85.set_2 | refine IsS85.far ?_ NB0_273.out _) | exact HI0.out)); (case side2 => repeat (first | (with_reducible first | exact HB.out | apply below_alloc | apply pw_below_drewN | apply below_drew1 | refine below_set ?_ (IsS85.ge HI0.out) | refine below_set ?_ GE273.out) | exact HB.out)); rintro e w8 ⟨rfl, hi, hb, hk⟩; refine ⟨_, rfl, ?_⟩; have n0_ := Aside0.mk (KeepBut.blk hk (g' := gb273) (o := .cells #[.int .i64 0, .slice none 0 0] 24 (0, 0)) (bk_ BK273) NB273_0.out (by simp)); have n1_ := Aside0.mk (KeepBut.trans (by repeat (first | (with_reducible first | exact HK.out | apply KeepBut.set_ | apply keep_drewN | apply keep_drew | apply keep_alloc | refine keep_far ?_ GW273.out _) | exact HK.out)) hk (.inl rfl)); have n2_ := Aside0.mk (hb); have n3_ := Aside0.mk (hi); clear BK273; clear HK; clear HB; clear HI0; have BK273 := n0_; have HK := n1_; have HB := n2_; have HI0 := n3_; clear n0_ n1_ n2_ n3_; (try clear hb); (try clear hb2); (try clear hk); (try clear hi)) | ((with_reducible refine gate_callee (f := 17) rfl ?_); refine goesL_ (some 16) rfl rfl Try.func17 (by kernel_rfl) rfl #[.int .i64 (wrap64 (t274 + (wrap64 (t277 * 90))))] rfl mt_ ?_; (with_reducible refine (spec_SlabNew.calls k (wrap64 (t274 + (wrap64 (t277 * 90)))) t280 t281 _ A4.out).mono ?_); rintro e w9 ⟨v282, rfl, ho0, hb⟩; refine ⟨_, rfl, ?_⟩; have n0_ := Aside0.mk (Kd.R_lower ho0 (keep_size (w := w) (g := g) (row := none) (by repeat (first | (with_reducible first | exact HK.out | apply KeepBut.set_ | apply keep_drewN | apply keep_drew | apply keep_alloc | refine keep_far ?_ GW273.out _) | exact HK.out)))); have n1_ := Aside0.mk (IsS85.below (by repeat (first | (with_reducible first | exact HI0.out | apply IsS85.alloc | apply IsS85.drewN | apply IsS85.drew | apply IsS85.set_1 | apply IsS85.set_2 | refine IsS85.far ?_ NB0_273.out _) | exact HI0.out)) hb); have n2_ := Aside0.mk (blk_below (g := gb273) (o := .cells #[.int .i64 0, .slice none 0 0] 24 (0, 0)) (bk_ BK273) hb); have n3_ := Aside0.mk (KeepBut.trans (by repeat (first | (with_reducible first | exact HK.out | apply KeepBut.set_ | apply keep_drewN | apply keep_drew | apply keep_alloc | refine keep_far ?_ GW273.out _) | exact HK.out)) (KeepBut.of_below hb g none) (.inl rfl)); have n4_ := Aside0.mk (below_step (by repeat (first | (with_reducible first | exact HB.out | apply below_alloc | apply pw_below_drewN | apply below_drew1 | refine below_set ?_ (IsS85.ge HI0.out) | refine below_set ?_ GE273.out) | exact HB.out)) hb); clear HI0; clear BK273; clear HK; clear HB; have HO283 := n0_; have HI0 := n1_; have BK273 := n2_; have HK := n3_; have HB := n4_; clear n0_ n1_ n2_ n3_ n4_; (try clear hb); (try clear hb2); (try clear hk); (try clear hi); (try clear ho0)) | ((with_reducible refine gate_dst (N := 3) rfl ?_); (try (refine gate_guard (by rfl) ?_; dsimp only)); refine box_event ?hg (N := 3) ?hd (cs := #[.int .i64 0, .slice none 0 0]) (t := 24) ?hr ?_; (case hd => rfl); (case hg => rfl); (case hr => first | (go_simp; done) | (go_simp; rfl)); intro gb284 hg w10 hbox hb; have n0_ := Aside0.mk (Kd.R_below (kr_ HO283) hb); have n1_ := Aside0.mk (IsS85.below (by repeat (first | (with_reducible first | exact HI0.out | apply IsS85.alloc | apply IsS85.drewN | apply IsS85.drew | apply IsS85.set_1 | apply IsS85.set_2 | refine IsS85.far ?_ NB0_273.out _) | exact HI0.out)) hb); have n2_ := Aside0.mk (blk_below (g := gb273) (o := .cells #[.int .i64 0, .slice none 0 0] 24 (0, 0)) (bk_ BK273) hb); have n3_ := Aside0.mk (KeepBut.trans (by repeat (first | (with_reducible first | exact HK.out | apply KeepBut.set_ | apply keep_drewN | apply keep_drew | apply keep_alloc | refine keep_far ?_ GW273.out _) | exact HK.out)) (KeepBut.of_below hb g none) (.inl rfl)); have n4_ := Aside0.mk (below_step (by repeat (first | (with_reducible first | exact HB.out | apply below_alloc | apply pw_below_drewN | apply below_drew1 | refine below_set ?_ (IsS85.ge HI0.out) | refine below_set ?_ GE273.out) | exact HB.out)) hb); have n5_ := Aside0.mk (hbox); have n6_ := Aside0.mk ((by rw [hg]; exact (keep_size (w := w) (g := g) (row := none) (by repeat (first | (with_reducible first | exact HK.out | apply KeepBut.set_ | apply keep_drewN | apply keep_drew | apply keep_alloc | refine keep_far ?_ GW273.out _) | exact HK.out))) : w.heap.size ≤ gb284)); have n7_ := Aside0.mk ((Nat.le_trans HW0.out (by rw [hg]; exact (keep_size (w := w) (g := g) (row := none) (by repeat (first | (with_reducible first | exact HK.out | apply KeepBut.set_ | apply keep_drewN | apply keep_drew | apply keep_alloc | refine keep_far ?_ GW273.out _) | exact HK.out))) : w.heap.size ≤ gb284) : w0.heap.size ≤ gb284)); have n8_ := Aside0.mk ((by rw [hg]; exact Nat.ne_of_lt (blk_lt (g := gb273) (o := .cells #[.int .i64 0, .slice none 0 0] 24 (0, 0)) (bk_ BK273)) : gb273 ≠ gb284)); have n9_ := Aside0.mk ((by rw [hg]; exact Nat.ne_of_gt (blk_lt (g := gb273) (o := .cells #[.int .i64 0, .slice none 0 0] 24 (0, 0)) (bk_ BK273)) : gb284 ≠ gb273)); have n10_ := Aside0.mk ((by rw [hg]; exact Nat.ne_of_lt (IsS85.lt (show IsS85 w0 _ g s0_0 t278 t279 from by repeat (first | (with_reducible first | exact HI0.out | apply IsS85.alloc | apply IsS85.drewN | apply IsS85.drew | apply IsS85.set_1 | apply IsS85.set_2 | refine IsS85.far ?_ NB0_273.out _) | exact HI0.out))) : g ≠ gb284)); have n11_ := Aside0.mk ((by rw [hg]; exact Nat.ne_of_gt (IsS85.lt (show IsS85 w0 _ g s0_0 t278 t279 from by repeat (first | (with_reducible first | exact HI0.out | apply IsS85.alloc | apply IsS85.drewN | apply IsS85.drew | apply IsS85.set_1 | apply IsS85.set_2 | refine IsS85.far ?_ NB0_273.out _) | exact HI0.out))) : gb284 ≠ g)); clear HO283; clear HI0; clear BK273; clear HK; clear HB; have HO283 := n0_; have HI0 := n1_; have BK273 := n2_; have HK := n3_; have HB := n4_; have BK284 := n5_; have GW284 := n6_; have GE284 := n7_; have NB273_284 := n8_; have NB284_273 := n9_; have NB0_284 := n10_; have NB284_0 := n11_; clear n0_ n1_ n2_ n3_ n4_ n5_ n6_ n7_ n8_ n9_ n10_ n11_; clear hb hbox hg; have hnb11 := NB284_273.out; have hnc11 := NB273_284.out; have hnb12 := NB284_0.out; have hnc12 := NB0_284.out; have hcz13_0 : w10.cell? ⟨gb284, 0, none⟩ = some (.int .i64 0) := (blk_cell BK284.out 0).trans rfl; have hcz13_1 : w10.cell? ⟨gb284, 1, none⟩ = some (.slice none 0 0) := (blk_cell BK284.out 1).trans rfl; have hfz13_0 := blk_frozen BK284.out 0; have hfz13_1 := blk_frozen BK284.out 1; obtain ⟨Ao14, co14, eo14⟩ := Kd.R_slice HO283.out; subst eo14) | ((with_reducible refine gate_callee (f := 84) rfl ?_); refine goesL_ (some 18) rfl rfl Try.func84 (by kernel_rfl) rfl #[.pointer (some ⟨g, 0, none⟩), .int .i64 20] rfl mt_ ?_; (with_reducible refine (spec_l01Cur_size.calls g s0_0 t278 t279 20 t285 t286 t287 w0 _ ?side1 ?side2 A5.out).mono ?_); (case side1 => repeat (first | (with_reducible first | exact HI0.out | apply IsS85.alloc | apply IsS85.drewN | apply IsS85.drew | apply IsS85.set_1 | apply IsS85.set_2 | refine IsS85.far ?_ NB0_273.out _ | refine IsS85.far ?_ NB0_284.out _) | exact HI0.out)); (case side2 => repeat (first | (with_reducible first | exact HB.out | apply below_alloc | apply pw_below_drewN | apply below_drew1 | refine below_set ?_ (IsS85.ge HI0.out) | refine below_set ?_ GE273.out | refine below_set ?_ GE284.out) | exact HB.out)); rintro e w15 ⟨rfl, hi, hb, hk⟩; refine ⟨_, rfl, ?_⟩; have n0_ := Aside0.mk (KeepBut.blk hk (g' := gb273) (o := .cells #[.int .i64 0, .slice none 0 0] 24 (0, 0)) (by (with_reducible repeat (first | refine blk_drewN ?_ _ | refine blk_drew ?_ | refine blk_alloc ?_ _)); refine blk_far ?_ NB273_284.out _; (with_reducible repeat (first | refine blk_drewN ?_ _ | refine blk_drew ?_ | refine blk_alloc ?_ _)); refine blk_far ?_ NB273_284.out _; exact bk_ BK273) NB273_0.out (by simp)); have n1_ := Aside0.mk (Kd.R_mono (Kd.R_keep (IsS85.apart (show IsS85 w0 _ g s0_0 t278 t279 from by repeat (first | (with_reducible first | exact HI0.out | apply IsS85.alloc | apply IsS85.drewN | apply IsS85.drew | apply IsS85.set_1 | apply IsS85.set_2 | refine IsS85.far ?_ NB0_273.out _ | refine IsS85.far ?_ NB0_284.out _) | exact HI0.out)) (by (with_reducible repeat (first | apply Kd.R_alloc | apply Kd.R_drewN | apply Kd.R_drew)); exact (Kd.R_mono (Kd.R_far (p := ⟨gb284, 1, none⟩) (Kd.R_far (p := ⟨gb284, 0, none⟩) (Kd.R_types HO283.out BK284.out (by decide)) (fun _ hk => by first | exact hk.2 | grind) (.int .i64 t280)) (fun _ hk => by first | exact hk.2 | grind) (.slice Ao14 t281.length co14)) (fun _ h_ => h_.1))) (by decide)) hk (fun _ h => h.2)) (fun _ h => h.1)); have n2_ := Aside0.mk (KeepBut.blk hk (g' := gb284) (o := .cells #[.int .i64 t280, .slice Ao14 t281.length co14] 24 (0, 0)) (by (with_reducible repeat (first | refine blk_drewN ?_ _ | refine blk_drew ?_ | refine blk_alloc ?_ _)); refine blk_put (cs := #[.int .i64 t280, .slice none 0 0]) ?_ 1 _ rfl; (with_reducible repeat (first | refine blk_drewN ?_ _ | refine blk_drew ?_ | refine blk_alloc ?_ _)); refine blk_put (cs := #[.int .i64 0, .slice none 0 0]) ?_ 0 _ rfl; exact bk_ BK284) NB284_0.out (by simp)); have n3_ := Aside0.mk (KeepBut.trans (by repeat (first | (with_reducible first | exact HK.out | apply KeepBut.set_ | apply keep_drewN | apply keep_drew | apply keep_alloc | refine keep_far ?_ GW273.out _ | refine keep_far ?_ GW284.out _) | exact HK.out)) hk (.inl rfl)); have n4_ := Aside0.mk (hb); have n5_ := Aside0.mk (hi); clear BK273; clear HO283; clear BK284; clear HK; clear HB; clear HI0; have BK273 := n0_; have HO283 := n1_; have BK284 := n2_; have HK := n3_; have HB := n4_; have HI0 := n5_; clear n0_ n1_ n2_ n3_ n4_ n5_; (try clear hb); (try clear hb2); (try clear hk); (try clear hi)))
 go_loopg [4] k (fun kq v4 w' => ∃ (x4_1 : Int) (x1001_1 : Int) (x1002_1 : Int) (x285000_1 : Int) (x285001_1 : List Int) (u285001 : Value), v4 = .int .i64 x4_1 ∧ Aside0 (spec_l01Cur_slab.l0 kq x4_1 s0_0 x1001_1 x1002_1 x285000_1 x285001_1 = some (r1, r2, r3, r4)) ∧ Aside0 (kq ≤ k) ∧ Aside0 (Kd.R (Kd.int .i64) 3 w' w.heap.size (fun _ => True) u285001 x285001_1) ∧ Aside0 (w'.heap[gb273]? = some (.cells #[.int .i64 0, (.slice none 0 0)] 24 (0, 0))) ∧ Aside0 (w'.heap[gb284]? = some (.cells #[.int .i64 x285000_1, u285001] 24 (0, 0))) ∧ Aside0 (IsS85 w0 w' g s0_0 x1001_1 x1002_1) ∧ Aside0 (KeepBut w w' g none) ∧ Aside0 (Below w0.heap.size w0 w'))
 case atStart => exact ⟨(t285), (t286), (t287), (t280), (t281), (.slice Ao14 t281.length co14), (by first | rfl | (simp; done) | (simp [*]; done)), H', ⟨Nat.le_refl _⟩, ⟨kr_ HO283⟩, ⟨bk_ BK273⟩, ⟨bk_ BK284⟩, ⟨by repeat (first | (with_reducible first | exact HI0.out | apply IsS85.alloc | apply IsS85.drewN | apply IsS85.drew | apply IsS85.set_1 | apply IsS85.set_2 | refine IsS85.far ?_ NB0_273.out _ | refine IsS85.far ?_ NB0_284.out _) | exact HI0.out)⟩, ⟨by repeat (first | (with_reducible first | exact HK.out | apply KeepBut.set_ | apply keep_drewN | apply keep_drew | apply keep_alloc | refine keep_far ?_ GW273.out _ | refine keep_far ?_ GW284.out _) | exact HK.out)⟩, ⟨by repeat (first | (with_reducible first | exact HB.out | apply below_alloc | apply pw_below_drewN | apply below_drew1 | refine below_set ?_ (IsS85.ge HI0.out) | refine below_set ?_ GE273.out | refine below_set ?_ GE284.out) | exact HB.out)⟩⟩
 case round =>
  clear H'
  try clear c1
  try clear p2
  try clear p6
  try clear c7
  try clear c8
  try clear c11
  try clear c12
  try clear hcz13_0
  try clear hcz13_1
  try clear hfz13_0
  try clear hfz13_1
  obtain ⟨x4_1, x1001_1, x1002_1, x285000_1, x285001_1, u285001, rfl, HA, HK1, HO_285001, BK273, BK284, HI0, HK, HB⟩ := hrel
  cases gk with
  | zero => exact absurd HA.out (by simp [spec_l01Cur_slab.l0])
  | succ k1 =>
   have H := HA.out
   clear HA
   simp only [spec_l01Cur_slab.l0] at H
   by_cases c16 : x4_1 > 0
   ·rw [if_pos c16] at H
    have c16b0 : decide (0 < x4_1) = true := decide_eq_true c16
    clear c16
    have HC17 := Aside0.mk H
    clear H
    go_upto_region 5 with (fail)
    go_cut [30] (fun v30 wc => ∃ (kq : Nat) (x30_16 : Bool) (x1001_16 : Int) (x1002_16 : Int), v30 = .bool x30_16 ∧ Aside0 (spec_l01Cur_slab.j1 kq x4_1 x30_16 s0_0 x1001_16 x1002_16 x285000_1 x285001_1 = some (r1, r2, r3, r4)) ∧ Aside0 (kq ≤ k1) ∧ Aside0 (Kd.R (Kd.int .i64) 3 wc w.heap.size (fun _ => True) u285001 x285001_1) ∧ Aside0 (wc.heap[gb273]? = some (.cells #[.int .i64 0, (.slice none 0 0)] 24 (0, 0))) ∧ Aside0 (wc.heap[gb284]? = some (.cells #[.int .i64 x285000_1, u285001] 24 (0, 0))) ∧ Aside0 (IsS85 w0 wc g s0_0 x1001_16 x1002_16) ∧ Aside0 (KeepBut w wc g none) ∧ Aside0 (Below w0.heap.size w0 wc))
    case first =>
     have H := HC17.out
     clear HC17
     replace H := Option.bind_eq_some_iff.mp H
     obtain ⟨⟨t288, t289, t290⟩, A180, H⟩ := H
     replace H : (if t288 = true then (spec_l01Cur_slab.j1 k1 x4_1 (decide ((x285001_1.length : Int) > 0)) s0_0 t289 t290 x285000_1 x285001_1) else (spec_l01Cur_slab.j1 k1 x4_1 false s0_0 t289 t290 x285000_1 x285001_1)) = some (r1, r2, r3, r4) := H
     have A18 := Aside0.mk A180
     clear A180
     by_cases c19 : t288 = true
     ·subst c19
      have H1 : (spec_l01Cur_slab.j1 k1 x4_1 (decide ((x285001_1.length : Int) > 0)) s0_0 t289 t290 x285000_1 x285001_1) = some (r1, r2, r3, r4) := by rw [if_pos rfl] at H; exact H
      clear H
      have H := H1
      clear H1
      have H' := Aside0.mk H
      clear H
      go_wp2_with (first | ((with_reducible refine gate_callee (f := 85) rfl ?_); refine goesL_ (some 24) rfl rfl Try.func85 (by kernel_rfl) rfl #[.pointer (some ⟨g, 0, none⟩), .int .i64 3] rfl mt_ ?_; (with_reducible refine (spec_l01Cur_once.calls g s0_0 x1001_1 x1002_1 3 true t289 t290 w0 _ ?side1 ?side2 A18.out).mono ?_); (case side1 => repeat (first | (with_reducible first | exact HI0.out | apply IsS85.alloc | apply IsS85.drewN | apply IsS85.drew | apply IsS85.set_1 | apply IsS85.set_2 | refine IsS85.far ?_ NB0_273.out _ | refine IsS85.far ?_ NB0_284.out _) | exact HI0.out)); (case side2 => repeat (first | (with_reducible first | exact HB.out | apply below_alloc | apply pw_below_drewN | apply below_drew1 | refine below_set ?_ (IsS85.ge HI0.out) | refine below_set ?_ GE273.out | refine below_set ?_ GE284.out) | exact HB.out)); rintro e w20 ⟨rfl, hi, hb, hk⟩; refine ⟨_, rfl, ?_⟩; have n0_ := Aside0.mk (Kd.R_mono (Kd.R_keep (IsS85.apart (show IsS85 w0 _ g s0_0 x1001_1 x1002_1 from by repeat (first | (with_reducible first | exact HI0.out | apply IsS85.alloc | apply IsS85.drewN | apply IsS85.drew | apply IsS85.set_1 | apply IsS85.set_2 | refine IsS85.far ?_ NB0_273.out _ | refine IsS85.far ?_ NB0_284.out _) | exact HI0.out)) (kr_ HO_285001) (by decide)) hk (fun _ h => h.2)) (fun _ h => h.1)); have n1_ := Aside0.mk (KeepBut.blk hk (g' := gb273) (o := .cells #[.int .i64 0, .slice none 0 0] 24 (0, 0)) (bk_ BK273) NB273_0.out (by simp)); have n2_ := Aside0.mk (KeepBut.blk hk (g' := gb284) (o := .cells #[.int .i64 x285000_1, u285001] 24 (0, 0)) (bk_ BK284) NB284_0.out (by simp)); have n3_ := Aside0.mk (KeepBut.trans (by repeat (first | (with_reducible first | exact HK.out | apply KeepBut.set_ | apply keep_drewN | apply keep_drew | apply keep_alloc | refine keep_far ?_ GW273.out _ | refine keep_far ?_ GW284.out _) | exact HK.out)) hk (.inl rfl)); have n4_ := Aside0.mk (hb); have n5_ := Aside0.mk (hi); clear HO_285001; clear BK273; clear BK284; clear HK; clear HB; clear HI0; have HO_285001 := n0_; have BK273 := n1_; have BK284 := n2_; have HK := n3_; have HB := n4_; have HI0 := n5_; clear n0_ n1_ n2_ n3_ n4_ n5_; (try clear hb); (try clear hb2); (try clear hk); (try clear hi); have hnb21 := NB284_273.out; have hnc21 := NB273_284.out; have hnb22 := NB284_0.out; have hnc22 := NB0_284.out; have hcz23_0 : w20.cell? ⟨gb284, 0, none⟩ = some (.int .i64 x285000_1) := (blk_cell BK284.out 0).trans rfl; have hcz23_1 : w20.cell? ⟨gb284, 1, none⟩ = some (u285001) := (blk_cell BK284.out 1).trans rfl; have hfz23_0 := blk_frozen BK284.out 0; have hfz23_1 := blk_frozen BK284.out 1; obtain ⟨Ao24, co24, eo24⟩ := Kd.R_slice HO_285001.out; subst eo24))
      go_meet
      case rel => exact ⟨_, (decide ((x285001_1.length : Int) > 0)), (t289), (t290), (by first | rfl | (simp; done) | (simp [*]; done)), H', ⟨by have := HK1.out; first | omega | exact Nat.le_refl _⟩, ⟨kr_ HO_285001⟩, ⟨bk_ BK273⟩, ⟨bk_ BK284⟩, ⟨by repeat (first | (with_reducible first | exact HI0.out | apply IsS85.alloc | apply IsS85.drewN | apply IsS85.drew | apply IsS85.set_1 | apply IsS85.set_2 | refine IsS85.far ?_ NB0_273.out _ | refine IsS85.far ?_ NB0_284.out _) | exact HI0.out)⟩, ⟨by repeat (first | (with_reducible first | exact HK.out | apply KeepBut.set_ | apply keep_drewN | apply keep_drew | apply keep_alloc | refine keep_far ?_ GW273.out _ | refine keep_far ?_ GW284.out _) | exact HK.out)⟩, ⟨by repeat (first | (with_reducible first | exact HB.out | apply below_alloc | apply pw_below_drewN | apply below_drew1 | refine below_set ?_ (IsS85.ge HI0.out) | refine below_set ?_ GE273.out | refine below_set ?_ GE284.out) | exact HB.out)⟩⟩
     ·replace c19 := Bool.eq_false_iff.mpr c19
      subst c19
      have H1 : (spec_l01Cur_slab.j1 k1 x4_1 false s0_0 t289 t290 x285000_1 x285001_1) = some (r1, r2, r3, r4) := by rw [if_neg (show ¬ (false = true) by decide)] at H; exact H
      clear H
      have H := H1
      clear H1
      have H' := Aside0.mk H
      clear H
      go_wp2_with (first | ((with_reducible refine gate_callee (f := 85) rfl ?_); refine goesL_ (some 24) rfl rfl Try.func85 (by kernel_rfl) rfl #[.pointer (some ⟨g, 0, none⟩), .int .i64 3] rfl mt_ ?_; (with_reducible refine (spec_l01Cur_once.calls g s0_0 x1001_1 x1002_1 3 false t289 t290 w0 _ ?side1 ?side2 A18.out).mono ?_); (case side1 => repeat (first | (with_reducible first | exact HI0.out | apply IsS85.alloc | apply IsS85.drewN | apply IsS85.drew | apply IsS85.set_1 | apply IsS85.set_2 | refine IsS85.far ?_ NB0_273.out _ | refine IsS85.far ?_ NB0_284.out _) | exact HI0.out)); (case side2 => repeat (first | (with_reducible first | exact HB.out | apply below_alloc | apply pw_below_drewN | apply below_drew1 | refine below_set ?_ (IsS85.ge HI0.out) | refine below_set ?_ GE273.out | refine below_set ?_ GE284.out) | exact HB.out)); rintro e w25 ⟨rfl, hi, hb, hk⟩; refine ⟨_, rfl, ?_⟩; have n0_ := Aside0.mk (Kd.R_mono (Kd.R_keep (IsS85.apart (show IsS85 w0 _ g s0_0 x1001_1 x1002_1 from by repeat (first | (with_reducible first | exact HI0.out | apply IsS85.alloc | apply IsS85.drewN | apply IsS85.drew | apply IsS85.set_1 | apply IsS85.set_2 | refine IsS85.far ?_ NB0_273.out _ | refine IsS85.far ?_ NB0_284.out _) | exact HI0.out)) (kr_ HO_285001) (by decide)) hk (fun _ h => h.2)) (fun _ h => h.1)); have n1_ := Aside0.mk (KeepBut.blk hk (g' := gb273) (o := .cells #[.int .i64 0, .slice none 0 0] 24 (0, 0)) (bk_ BK273) NB273_0.out (by simp)); have n2_ := Aside0.mk (KeepBut.blk hk (g' := gb284) (o := .cells #[.int .i64 x285000_1, u285001] 24 (0, 0)) (bk_ BK284) NB284_0.out (by simp)); have n3_ := Aside0.mk (KeepBut.trans (by repeat (first | (with_reducible first | exact HK.out | apply KeepBut.set_ | apply keep_drewN | apply keep_drew | apply keep_alloc | refine keep_far ?_ GW273.out _ | refine keep_far ?_ GW284.out _) | exact HK.out)) hk (.inl rfl)); have n4_ := Aside0.mk (hb); have n5_ := Aside0.mk (hi); clear HO_285001; clear BK273; clear BK284; clear HK; clear HB; clear HI0; have HO_285001 := n0_; have BK273 := n1_; have BK284 := n2_; have HK := n3_; have HB := n4_; have HI0 := n5_; clear n0_ n1_ n2_ n3_ n4_ n5_; (try clear hb); (try clear hb2); (try clear hk); (try clear hi)))
      go_meet
      case rel => exact ⟨_, (false), (t289), (t290), (by first | rfl | (simp; done) | (simp [*]; done)), H', ⟨by have := HK1.out; first | omega | exact Nat.le_refl _⟩, ⟨kr_ HO_285001⟩, ⟨bk_ BK273⟩, ⟨bk_ BK284⟩, ⟨by repeat (first | (with_reducible first | exact HI0.out | apply IsS85.alloc | apply IsS85.drewN | apply IsS85.drew | apply IsS85.set_1 | apply IsS85.set_2 | refine IsS85.far ?_ NB0_273.out _ | refine IsS85.far ?_ NB0_284.out _) | exact HI0.out)⟩, ⟨by repeat (first | (with_reducible first | exact HK.out | apply KeepBut.set_ | apply keep_drewN | apply keep_drew | apply keep_alloc | refine keep_far ?_ GW273.out _ | refine keep_far ?_ GW284.out _) | exact HK.out)⟩, ⟨by repeat (first | (with_reducible first | exact HB.out | apply below_alloc | apply pw_below_drewN | apply below_drew1 | refine below_set ?_ (IsS85.ge HI0.out) | refine below_set ?_ GE273.out | refine below_set ?_ GE284.out) | exact HB.out)⟩⟩
    case rest =>
     clear HC17
     try clear c1
     try clear c2
     try clear p2
     try clear p6
     try clear c7
     try clear c8
     try clear c11
     try clear c12
     try clear c16
     try clear c16b0
     try clear c17
     try clear c19
     try clear c21
     try clear c22
     try clear hcz13_0
     try clear hcz13_1
     try clear hcz23_0
     try clear hcz23_1
     try clear hfz13_0
     try clear hfz13_1
     try clear hfz23_0
     try clear hfz23_1
     try clear p2
     try clear p6
     obtain ⟨kq, x30_16, x1001_16, x1002_16, rfl, HA, HJ16, HO_285001, BK273, BK284, HI0, HK, HB⟩ := hcut
     cases kq with
     | zero => exact absurd HA.out (by simp [spec_l01Cur_slab.j1])
     | succ kj16 =>
      have H := HA.out
      clear HA
      simp only [spec_l01Cur_slab.j1] at H
      by_cases c26 : x30_16 = true
      ·subst c26
       have H1 : ((spec_l01Cur_pick.f s0_0 x1001_16 x1002_16 (x285001_1.length : Int)).bind fun bt291 => ((spec_SlabGive.f kj16 x285000_1 x285001_1 bt291.1).bind fun bt294 => (if bt294.2.2 = 0 then (spec_l01Cur_slab.l0 kj16 (wrap64 (x4_1 - 1)) s0_0 bt291.2.1 bt291.2.2 bt294.1 bt294.2.1) else (spec_l01Cur_slab.l0 kj16 (wrap64 (x4_1 - 1)) s0_0 bt291.2.1 bt291.2.2 x285000_1 x285001_1)))) = some (r1, r2, r3, r4) := by rw [if_pos rfl] at H; exact H
       clear H
       have H := H1
       clear H1
       replace H := Option.bind_eq_some_iff.mp H
       obtain ⟨⟨t291, t292, t293⟩, A270, H⟩ := H
       replace H : ((spec_SlabGive.f kj16 x285000_1 x285001_1 t291).bind fun bt294 => (if bt294.2.2 = 0 then (spec_l01Cur_slab.l0 kj16 (wrap64 (x4_1 - 1)) s0_0 t292 t293 bt294.1 bt294.2.1) else (spec_l01Cur_slab.l0 kj16 (wrap64 (x4_1 - 1)) s0_0 t292 t293 x285000_1 x285001_1))) = some (r1, r2, r3, r4) := H
       have A27 := Aside0.mk A270
       clear A270
       replace H := Option.bind_eq_some_iff.mp H
       obtain ⟨⟨t294, t295, t298⟩, A280, H⟩ := H
       replace H : (if t298 = 0 then (spec_l01Cur_slab.l0 kj16 (wrap64 (x4_1 - 1)) s0_0 t292 t293 t294 t295) else (spec_l01Cur_slab.l0 kj16 (wrap64 (x4_1 - 1)) s0_0 t292 t293 x285000_1 x285001_1)) = some (r1, r2, r3, r4) := H
       have A28 := Aside0.mk A280
       clear A280
       by_cases c29 : t298 = 0
       ·rw [if_pos c29] at H
        have c29b0 : (t298 == 0) = true := beq_iff_eq.mpr c29
        have c29b1 : (t298 != 0) = false := bne_eq_false_iff_eq.mpr c29
        clear c29
        have H' := Aside0.mk H
        clear H
        obtain ⟨Ao30, co30, eo30⟩ := Kd.R_slice HO_285001.out
        subst eo30
        try go_wp2
        have n0_ := Aside0.mk (Kd.R_drew HO_285001.out)
        have n1_ := Aside0.mk (blk_drew BK273.out)
        have n2_ := Aside0.mk (blk_drew BK284.out)
        have n3_ := Aside0.mk (IsS85.drew HI0.out)
        have n4_ := Aside0.mk (keep_drew HK.out)
        have n5_ := Aside0.mk (below_drew1 HB.out)
        clear HO_285001
        clear BK273
        clear BK284
        clear HI0
        clear HK
        clear HB
        have HO_285001 := n0_
        have BK273 := n1_
        have BK284 := n2_
        have HI0 := n3_
        have HK := n4_
        have HB := n5_
        clear n0_ n1_ n2_ n3_ n4_ n5_
        refine start_ (n := 13) (S := fun w' => w'.cell? ⟨gb284, 0, none⟩ = some (.int .i64 x285000_1) ∧ w'.cell? ⟨gb284, 1, none⟩ = some (.slice Ao30 x285001_1.length co30)) (ds := []) (bs 13 0) (by kernel_rfl) rfl rfl ⟨(blk_cell BK284.out 0).trans rfl, (blk_cell BK284.out 1).trans rfl⟩ (fun hHeld => ?_); refine with_tabW spec_l01Cur_slab.tab6 spec_l01Cur_slab.bits6 (fun HT_ HW_ => ?_)
        generalize wc.drew = w31 at HO_285001 BK273 BK284 HI0 HK HB hHeld ⊢
        refine pure_s (i := 1) (N := some 33) #[oF,oT,oF,oF,oF,oF,oF,oF,oF,oF,oF,oF,oF] (any_of HT_.out (by kernel_rfl)) (h := ?_)
        refine pure_s (i := 2) (N := some 34) #[oF,oT,oT,oF,oF,oF,oF,oF,oF,oF,oF,oF,oF] (any_of HT_.out (by kernel_rfl)) (h := ?_)
        refine take_ (i := 0) (N := some 32) (v := ?_) (a' := ?_) (bs 13 3) rfl rfl (take_ofW HT_.out HW_.out (by kernel_rfl)) (fun _ _ _ h => h) (Or.inl ⟨by rfl, ?_⟩) hHeld ?_ ?_
        rotate_left
        ·rintro w' ⟨s0, s1⟩
         go_simp
         with_reducible rfl
        rotate_left
        ·simp only [Act.put, List.setIfInBounds_toArray, List.set_cons_zero, List.set_cons_succ, i64_w, i32_w]
         rfl
        refine take_ (i := 3) (N := some 35) (v := ?_) (a' := ?_) (bs 13 4) rfl rfl (take_ofW HT_.out HW_.out (by kernel_rfl)) (fun _ _ _ h => h) (Or.inl ⟨by rfl, ?_⟩) hHeld ?_ ?_
        rotate_left
        ·rintro w' ⟨s0, s1⟩
         go_simp
         with_reducible rfl
        rotate_left
        ·simp only [Act.put, List.setIfInBounds_toArray, List.set_cons_zero, List.set_cons_succ, i64_w, i32_w]
         rfl
        refine pure_s (i := 4) (N := some 36) (bs 13 5) (any_of HT_.out (by kernel_rfl)) (h := ?_)
        refine join_ (σ := Value × Nat) 2 (bs 13 11) (fun s_ => [(37, .int .i64 t291), (38, .tuple #[.agg #[.int .i64 t294, s_.1], .int .i64 t298]), (5, .pointer (some ⟨s_.2, 0, none⟩)), (31, .tuple #[.agg #[.int .i64 t294, s_.1], .int .i64 t298]), (39, .agg #[.int .i64 t294, s_.1]), (40, .int .i64 t298)]) (fun s_ w' => (w'.cell? ⟨gb284, 0, none⟩ = some (.int .i64 x285000_1) ∧ w'.cell? ⟨gb284, 1, none⟩ = some (.slice Ao30 x285001_1.length co30)) ∧ (Kd.R (Kd.int .i64) 3 w' w.heap.size (fun k_ => some k_ ≠ (.slice Ao30 x285001_1.length co30 : Value).ownBlock) s_.1 t295) ∧ (Kd.R (Kd.int .i64) 3 w' w.heap.size (fun k_ => some k_ ≠ (s_.1 : Value).ownBlock) (.slice Ao30 x285001_1.length co30) x285001_1) ∧ (w'.heap[gb273]? = some (.cells #[.int .i64 0, .slice none 0 0] 24 (0, 0))) ∧ (w'.heap[gb284]? = some (.cells #[.int .i64 x285000_1, .slice Ao30 x285001_1.length co30] 24 (0, 0))) ∧ (w'.heap[s_.2]? = some (.cells #[.int .i64 0, .slice none 0 0] 24 (0, 0))) ∧ (w.heap.size ≤ s_.2) ∧ (w0.heap.size ≤ s_.2) ∧ (g ≠ s_.2) ∧ (s_.2 ≠ g) ∧ (gb273 ≠ s_.2) ∧ (s_.2 ≠ gb273) ∧ (gb284 ≠ s_.2) ∧ (s_.2 ≠ gb284) ∧ (IsS85 w0 w' g s0_0 t292 t293) ∧ (KeepBut w w' g none) ∧ (Below w0.heap.size w0 w')) ?_ ?_
        rotate_left
        ·intro hCont
         refine two_ (i := 5) (j := 10) (Ni := some 37) (Nj := some 5) (bs 13 6) #[oT,oT,oT,oT,oT,oF,oF,oF,oF,oF,oT,oF,oF] rfl rfl rfl rfl (two_of HT_.out (by kernel_rfl)) (by decide) (by decide) (fun K hK => ?_) (fun K hK => ?_)
         ·skip
          refine goes_ Try.func77 (by kernel_rfl) rfl #[.pointer (some ⟨g, 0, none⟩), .int .i64 (x285001_1.length : Int)] (by rfl) rfl rfl mt_ ?_
          with_reducible refine (spec_l01Cur_pick.calls g s0_0 x1001_16 x1002_16 (x285001_1.length : Int) t291 t292 t293 w0 _ ?side1 ?side2 A27.out).mono ?_
          (case side1 => repeat (first | (with_reducible first | exact HI0.out | apply IsS85.alloc | apply IsS85.drewN | apply IsS85.drew | apply IsS85.set_1 | apply IsS85.set_2 | refine IsS85.far ?_ NB0_273.out _ | refine IsS85.far ?_ NB0_284.out _) | exact HI0.out))
          (case side2 => repeat (first | (with_reducible first | exact HB.out | apply below_alloc | apply pw_below_drewN | apply below_drew1 | refine below_set ?_ (IsS85.ge HI0.out) | refine below_set ?_ GE273.out | refine below_set ?_ GE284.out) | exact HB.out))
          rintro e w32 ⟨rfl, hi, hb, hk⟩
          refine ⟨_, rfl, ?_⟩
          have n0_ := Aside0.mk (Kd.R_mono (Kd.R_keep (IsS85.apart (show IsS85 w0 _ g s0_0 x1001_16 x1002_16 from by repeat (first | (with_reducible first | exact HI0.out | apply IsS85.alloc | apply IsS85.drewN | apply IsS85.drew | apply IsS85.set_1 | apply IsS85.set_2 | refine IsS85.far ?_ NB0_273.out _ | refine IsS85.far ?_ NB0_284.out _) | exact HI0.out)) (kr_ HO_285001) (by decide)) hk (fun _ h => h.2)) (fun _ h => h.1))
          have n1_ := Aside0.mk (KeepBut.blk hk (g' := gb273) (o := .cells #[.int .i64 0, .slice none 0 0] 24 (0, 0)) (bk_ BK273) NB273_0.out (by simp))
          have n2_ := Aside0.mk (KeepBut.blk hk (g' := gb284) (o := .cells #[.int .i64 x285000_1, .slice Ao30 x285001_1.length co30] 24 (0, 0)) (bk_ BK284) NB284_0.out (by simp))
          have n3_ := Aside0.mk (KeepBut.trans (by repeat (first | (with_reducible first | exact HK.out | apply KeepBut.set_ | apply keep_drewN | apply keep_drew | apply keep_alloc | refine keep_far ?_ GW273.out _ | refine keep_far ?_ GW284.out _) | exact HK.out)) hk (.inl rfl))
          have n4_ := Aside0.mk (hb)
          have n5_ := Aside0.mk (hi)
          clear HO_285001
          clear BK273
          clear BK284
          clear HK
          clear HB
          clear HI0
          have HO_285001 := n0_
          have BK273 := n1_
          have BK284 := n2_
          have HK := n3_
          have HB := n4_
          have HI0 := n5_
          clear n0_ n1_ n2_ n3_ n4_ n5_
          (try clear hb)
          (try clear hb2)
          (try clear hk)
          (try clear hi)
          refine hK.out _ _ ⟨(blk_cell BK284.out 0).trans rfl, (blk_cell BK284.out 1).trans rfl⟩ (fun hHeld => ?_)
          clear hK K
          refine norm_ (a' := ?_) ?_ ?_
          rotate_left
          ·show Act.put _ (some 37) _ = _
           simp only [Act.put, List.setIfInBounds_toArray, List.set_cons_zero, List.set_cons_succ, i64_w, i32_w]
           rfl
          refine two_ (i := 6) (j := 10) (Ni := some 38) (Nj := some 5) (bs 13 7) #[oT,oT,oT,oT,oT,oT,oF,oF,oF,oF,oT,oF,oF] rfl rfl rfl rfl (two_of HT_.out (by kernel_rfl)) (by decide) (by decide) (fun K hK => ?_) (fun K hK => ?_)
          ·skip
           refine goes_ Try.func42 (by kernel_rfl) rfl #[.agg #[.int .i64 x285000_1, .slice Ao30 x285001_1.length co30], .int .i64 t291] (by rfl) rfl rfl mt_ ?_
           with_reducible refine (spec_SlabGive.calls kj16 x285000_1 _ _ x285001_1 t291 t294 t295 t298 _ ?side1 ?side2 A28.out).mono ?_
           (case side1 => repeat (first | exact (Kd.R_reads' HO_285001.out).2.2 | (with_reducible refine Kd.C_alloc ?_ _) | (with_reducible refine Kd.C_drewN ?_ _) | (with_reducible refine Kd.C_drew ?_)))
           (case side2 => exact (Kd.R_reads' HO_285001.out).2.1)
           rintro e w33 ⟨v296, rfl, ho0, hb⟩
           refine ⟨_, rfl, ?_⟩
           have n0_ := Aside0.mk (Kd.R_elder' (kr_ HO_285001) (Kd.R_base ho0) hb)
           have n1_ := Aside0.mk (Kd.R_lower (Kd.R_new' ho0 (Kd.R_lt (kr_ HO_285001))) (keep_size (w := w) (g := g) (row := none) (by repeat (first | (with_reducible first | exact HK.out | apply KeepBut.set_ | apply keep_drewN | apply keep_drew | apply keep_alloc | refine keep_far ?_ GW273.out _ | refine keep_far ?_ GW284.out _) | exact HK.out))))
           have n2_ := Aside0.mk (blk_below (g := gb273) (o := .cells #[.int .i64 0, .slice none 0 0] 24 (0, 0)) (bk_ BK273) hb)
           have n3_ := Aside0.mk (blk_below (g := gb284) (o := .cells #[.int .i64 x285000_1, .slice Ao30 x285001_1.length co30] 24 (0, 0)) (bk_ BK284) hb)
           have n4_ := Aside0.mk (IsS85.below (by repeat (first | (with_reducible first | exact HI0.out | apply IsS85.alloc | apply IsS85.drewN | apply IsS85.drew | apply IsS85.set_1 | apply IsS85.set_2 | refine IsS85.far ?_ NB0_273.out _ | refine IsS85.far ?_ NB0_284.out _) | exact HI0.out)) hb)
           have n5_ := Aside0.mk (KeepBut.trans (by repeat (first | (with_reducible first | exact HK.out | apply KeepBut.set_ | apply keep_drewN | apply keep_drew | apply keep_alloc | refine keep_far ?_ GW273.out _ | refine keep_far ?_ GW284.out _) | exact HK.out)) (KeepBut.of_below hb g none) (.inl rfl))
           have n6_ := Aside0.mk (below_step (by repeat (first | (with_reducible first | exact HB.out | apply below_alloc | apply pw_below_drewN | apply below_drew1 | refine below_set ?_ (IsS85.ge HI0.out) | refine below_set ?_ GE273.out | refine below_set ?_ GE284.out) | exact HB.out)) hb)
           clear HO_285001
           clear BK273
           clear BK284
           clear HI0
           clear HK
           clear HB
           have HO_285001 := n0_
           have HO297 := n1_
           have BK273 := n2_
           have BK284 := n3_
           have HI0 := n4_
           have HK := n5_
           have HB := n6_
           clear n0_ n1_ n2_ n3_ n4_ n5_ n6_
           (try clear hb)
           (try clear hb2)
           (try clear hk)
           (try clear hi)
           (try clear ho0)
           refine hK.out _ _ ⟨(blk_cell BK284.out 0).trans rfl, (blk_cell BK284.out 1).trans rfl⟩ (fun hHeld => ?_)
           clear hK K
           refine norm_ (a' := ?_) ?_ ?_
           rotate_left
           ·show Act.put _ (some 38) _ = _
            simp only [Act.put, List.setIfInBounds_toArray, List.set_cons_zero, List.set_cons_succ, i64_w, i32_w]
            rfl
           refine pure_s (i := 7) (N := some 31) (bs 13 8) (any_of HT_.out (by kernel_rfl)) (h := ?_)
           refine pure_s (i := 8) (N := some 39) (bs 13 9) (any_of HT_.out (by kernel_rfl)) (h := ?_)
           refine pure_s (i := 9) (N := some 40) (bs 13 10) (any_of HT_.out (by kernel_rfl)) (h := ?_)
           refine one_ (i := 10) (N := some 5) (bs 13 11) rfl rfl (one_of HT_.out (by kernel_rfl)) (by decide) (fun K hK => ?_)
           refine box_step ?hg (N := 5) ?hd (cs := #[.int .i64 0, .slice none 0 0]) (t := 24) ?hr ?_; (case hd => rfl); (case hg => rfl); (case hr => first | (go_simp; done) | (go_simp; rfl))
           intro gb299 hg w34 hbox hb
           have n0_ := Aside0.mk (Kd.R_below (kr_ HO_285001) hb)
           have n1_ := Aside0.mk (Kd.R_below (kr_ HO297) hb)
           have n2_ := Aside0.mk (blk_below (g := gb273) (o := .cells #[.int .i64 0, .slice none 0 0] 24 (0, 0)) (bk_ BK273) hb)
           have n3_ := Aside0.mk (blk_below (g := gb284) (o := .cells #[.int .i64 x285000_1, .slice Ao30 x285001_1.length co30] 24 (0, 0)) (bk_ BK284) hb)
           have n4_ := Aside0.mk (IsS85.below (by repeat (first | (with_reducible first | exact HI0.out | apply IsS85.alloc | apply IsS85.drewN | apply IsS85.drew | apply IsS85.set_1 | apply IsS85.set_2 | refine IsS85.far ?_ NB0_273.out _ | refine IsS85.far ?_ NB0_284.out _) | exact HI0.out)) hb)
           have n5_ := Aside0.mk (KeepBut.trans (by repeat (first | (with_reducible first | exact HK.out | apply KeepBut.set_ | apply keep_drewN | apply keep_drew | apply keep_alloc | refine keep_far ?_ GW273.out _ | refine keep_far ?_ GW284.out _) | exact HK.out)) (KeepBut.of_below hb g none) (.inl rfl))
           have n6_ := Aside0.mk (below_step (by repeat (first | (with_reducible first | exact HB.out | apply below_alloc | apply pw_below_drewN | apply below_drew1 | refine below_set ?_ (IsS85.ge HI0.out) | refine below_set ?_ GE273.out | refine below_set ?_ GE284.out) | exact HB.out)) hb)
           have n7_ := Aside0.mk (hbox)
           have n8_ := Aside0.mk ((by rw [hg]; exact (keep_size (w := w) (g := g) (row := none) (by repeat (first | (with_reducible first | exact HK.out | apply KeepBut.set_ | apply keep_drewN | apply keep_drew | apply keep_alloc | refine keep_far ?_ GW273.out _ | refine keep_far ?_ GW284.out _) | exact HK.out))) : w.heap.size ≤ gb299))
           have n9_ := Aside0.mk ((Nat.le_trans HW0.out (by rw [hg]; exact (keep_size (w := w) (g := g) (row := none) (by repeat (first | (with_reducible first | exact HK.out | apply KeepBut.set_ | apply keep_drewN | apply keep_drew | apply keep_alloc | refine keep_far ?_ GW273.out _ | refine keep_far ?_ GW284.out _) | exact HK.out))) : w.heap.size ≤ gb299) : w0.heap.size ≤ gb299))
           have n10_ := Aside0.mk ((by rw [hg]; exact Nat.ne_of_lt (blk_lt (g := gb273) (o := .cells #[.int .i64 0, .slice none 0 0] 24 (0, 0)) (bk_ BK273)) : gb273 ≠ gb299))
           have n11_ := Aside0.mk ((by rw [hg]; exact Nat.ne_of_gt (blk_lt (g := gb273) (o := .cells #[.int .i64 0, .slice none 0 0] 24 (0, 0)) (bk_ BK273)) : gb299 ≠ gb273))
           have n12_ := Aside0.mk ((by rw [hg]; exact Nat.ne_of_lt (blk_lt (g := gb284) (o := .cells #[.int .i64 x285000_1, .slice Ao30 x285001_1.length co30] 24 (0, 0)) (bk_ BK284)) : gb284 ≠ gb299))
           have n13_ := Aside0.mk ((by rw [hg]; exact Nat.ne_of_gt (blk_lt (g := gb284) (o := .cells #[.int .i64 x285000_1, .slice Ao30 x285001_1.length co30] 24 (0, 0)) (bk_ BK284)) : gb299 ≠ gb284))
           have n14_ := Aside0.mk ((by rw [hg]; exact Nat.ne_of_lt (IsS85.lt (show IsS85 w0 _ g s0_0 t292 t293 from by repeat (first | (with_reducible first | exact HI0.out | apply IsS85.alloc | apply IsS85.drewN | apply IsS85.drew | apply IsS85.set_1 | apply IsS85.set_2 | refine IsS85.far ?_ NB0_273.out _ | refine IsS85.far ?_ NB0_284.out _) | exact HI0.out))) : g ≠ gb299))
           have n15_ := Aside0.mk ((by rw [hg]; exact Nat.ne_of_gt (IsS85.lt (show IsS85 w0 _ g s0_0 t292 t293 from by repeat (first | (with_reducible first | exact HI0.out | apply IsS85.alloc | apply IsS85.drewN | apply IsS85.drew | apply IsS85.set_1 | apply IsS85.set_2 | refine IsS85.far ?_ NB0_273.out _ | refine IsS85.far ?_ NB0_284.out _) | exact HI0.out))) : gb299 ≠ g))
           clear HO_285001
           clear HO297
           clear BK273
           clear BK284
           clear HI0
           clear HK
           clear HB
           have HO_285001 := n0_
           have HO297 := n1_
           have BK273 := n2_
           have BK284 := n3_
           have HI0 := n4_
           have HK := n5_
           have HB := n6_
           have BK299 := n7_
           have GW299 := n8_
           have GE299 := n9_
           have NB273_299 := n10_
           have NB299_273 := n11_
           have NB284_299 := n12_
           have NB299_284 := n13_
           have NB0_299 := n14_
           have NB299_0 := n15_
           clear n0_ n1_ n2_ n3_ n4_ n5_ n6_ n7_ n8_ n9_ n10_ n11_ n12_ n13_ n14_ n15_
           clear hb hbox hg
           refine hK.out _ _ ⟨(blk_cell BK284.out 0).trans rfl, (blk_cell BK284.out 1).trans rfl⟩ (fun hHeld => ?_)
           clear hK K
           refine norm_ (a' := ?_) ?_ ?_
           rotate_left
           ·show Act.put _ (some 5) _ = _
            simp only [Act.put, List.setIfInBounds_toArray, List.set_cons_zero, List.set_cons_succ, i64_w, i32_w]
            rfl
           exact norm_ (by simp only [putAll, Act.put, List.setIfInBounds_toArray, List.set_cons_zero, List.set_cons_succ]) (hCont (v296, gb299) _ ⟨hHeld, (by (with_reducible repeat (first | apply Kd.R_alloc | apply Kd.R_drewN | apply Kd.R_drew)); exact Kd.R_mono HO297.out (fun _ hk => by first | exact hk.2 | grind)), (by (with_reducible repeat (first | apply Kd.R_alloc | apply Kd.R_drewN | apply Kd.R_drew)); exact Kd.R_mono HO_285001.out (fun _ hk => by first | exact hk.2 | grind)), (bk_ BK273), (bk_ BK284), (bk_ BK299), GW299.out, GE299.out, NB0_299.out, NB299_0.out, NB273_299.out, NB299_273.out, NB284_299.out, NB299_284.out, (by repeat (first | (with_reducible first | exact HI0.out | apply IsS85.alloc | apply IsS85.drewN | apply IsS85.drew | apply IsS85.set_1 | apply IsS85.set_2 | refine IsS85.far ?_ NB0_273.out _ | refine IsS85.far ?_ NB0_284.out _ | refine IsS85.far ?_ NB0_299.out _) | exact HI0.out)), (by repeat (first | (with_reducible first | exact HK.out | apply KeepBut.set_ | apply keep_drewN | apply keep_drew | apply keep_alloc | refine keep_far ?_ GW273.out _ | refine keep_far ?_ GW284.out _ | refine keep_far ?_ GW299.out _) | exact HK.out)), (by repeat (first | (with_reducible first | exact HB.out | apply below_alloc | apply pw_below_drewN | apply below_drew1 | refine below_set ?_ (IsS85.ge HI0.out) | refine below_set ?_ GE273.out | refine below_set ?_ GE284.out | refine below_set ?_ GE299.out) | exact HB.out))⟩)
          ·skip
           refine box_step ?hg (N := 5) ?hd (cs := #[.int .i64 0, .slice none 0 0]) (t := 24) ?hr ?_; (case hd => rfl); (case hg => rfl); (case hr => first | (go_simp; done) | (go_simp; rfl))
           intro gb299 hg w33 hbox hb
           have n0_ := Aside0.mk (Kd.R_below (kr_ HO_285001) hb)
           have n1_ := Aside0.mk (blk_below (g := gb273) (o := .cells #[.int .i64 0, .slice none 0 0] 24 (0, 0)) (bk_ BK273) hb)
           have n2_ := Aside0.mk (blk_below (g := gb284) (o := .cells #[.int .i64 x285000_1, .slice Ao30 x285001_1.length co30] 24 (0, 0)) (bk_ BK284) hb)
           have n3_ := Aside0.mk (IsS85.below (by repeat (first | (with_reducible first | exact HI0.out | apply IsS85.alloc | apply IsS85.drewN | apply IsS85.drew | apply IsS85.set_1 | apply IsS85.set_2 | refine IsS85.far ?_ NB0_273.out _ | refine IsS85.far ?_ NB0_284.out _) | exact HI0.out)) hb)
           have n4_ := Aside0.mk (KeepBut.trans (by repeat (first | (with_reducible first | exact HK.out | apply KeepBut.set_ | apply keep_drewN | apply keep_drew | apply keep_alloc | refine keep_far ?_ GW273.out _ | refine keep_far ?_ GW284.out _) | exact HK.out)) (KeepBut.of_below hb g none) (.inl rfl))
           have n5_ := Aside0.mk (below_step (by repeat (first | (with_reducible first | exact HB.out | apply below_alloc | apply pw_below_drewN | apply below_drew1 | refine below_set ?_ (IsS85.ge HI0.out) | refine below_set ?_ GE273.out | refine below_set ?_ GE284.out) | exact HB.out)) hb)
           have n6_ := Aside0.mk (hbox)
           have n7_ := Aside0.mk ((by rw [hg]; exact (keep_size (w := w) (g := g) (row := none) (by repeat (first | (with_reducible first | exact HK.out | apply KeepBut.set_ | apply keep_drewN | apply keep_drew | apply keep_alloc | refine keep_far ?_ GW273.out _ | refine keep_far ?_ GW284.out _) | exact HK.out))) : w.heap.size ≤ gb299))
           have n8_ := Aside0.mk ((Nat.le_trans HW0.out (by rw [hg]; exact (keep_size (w := w) (g := g) (row := none) (by repeat (first | (with_reducible first | exact HK.out | apply KeepBut.set_ | apply keep_drewN | apply keep_drew | apply keep_alloc | refine keep_far ?_ GW273.out _ | refine keep_far ?_ GW284.out _) | exact HK.out))) : w.heap.size ≤ gb299) : w0.heap.size ≤ gb299))
           have n9_ := Aside0.mk ((by rw [hg]; exact Nat.ne_of_lt (blk_lt (g := gb273) (o := .cells #[.int .i64 0, .slice none 0 0] 24 (0, 0)) (bk_ BK273)) : gb273 ≠ gb299))
           have n10_ := Aside0.mk ((by rw [hg]; exact Nat.ne_of_gt (blk_lt (g := gb273) (o := .cells #[.int .i64 0, .slice none 0 0] 24 (0, 0)) (bk_ BK273)) : gb299 ≠ gb273))
           have n11_ := Aside0.mk ((by rw [hg]; exact Nat.ne_of_lt (blk_lt (g := gb284) (o := .cells #[.int .i64 x285000_1, .slice Ao30 x285001_1.length co30] 24 (0, 0)) (bk_ BK284)) : gb284 ≠ gb299))
           have n12_ := Aside0.mk ((by rw [hg]; exact Nat.ne_of_gt (blk_lt (g := gb284) (o := .cells #[.int .i64 x285000_1, .slice Ao30 x285001_1.length co30] 24 (0, 0)) (bk_ BK284)) : gb299 ≠ gb284))
           have n13_ := Aside0.mk ((by rw [hg]; exact Nat.ne_of_lt (IsS85.lt (show IsS85 w0 _ g s0_0 t292 t293 from by repeat (first | (with_reducible first | exact HI0.out | apply IsS85.alloc | apply IsS85.drewN | apply IsS85.drew | apply IsS85.set_1 | apply IsS85.set_2 | refine IsS85.far ?_ NB0_273.out _ | refine IsS85.far ?_ NB0_284.out _) | exact HI0.out))) : g ≠ gb299))
           have n14_ := Aside0.mk ((by rw [hg]; exact Nat.ne_of_gt (IsS85.lt (show IsS85 w0 _ g s0_0 t292 t293 from by repeat (first | (with_reducible first | exact HI0.out | apply IsS85.alloc | apply IsS85.drewN | apply IsS85.drew | apply IsS85.set_1 | apply IsS85.set_2 | refine IsS85.far ?_ NB0_273.out _ | refine IsS85.far ?_ NB0_284.out _) | exact HI0.out))) : gb299 ≠ g))
           clear HO_285001
           clear BK273
           clear BK284
           clear HI0
           clear HK
           clear HB
           have HO_285001 := n0_
           have BK273 := n1_
           have BK284 := n2_
           have HI0 := n3_
           have HK := n4_
           have HB := n5_
           have BK299 := n6_
           have GW299 := n7_
           have GE299 := n8_
           have NB273_299 := n9_
           have NB299_273 := n10_
           have NB284_299 := n11_
           have NB299_284 := n12_
           have NB0_299 := n13_
           have NB299_0 := n14_
           clear n0_ n1_ n2_ n3_ n4_ n5_ n6_ n7_ n8_ n9_ n10_ n11_ n12_ n13_ n14_
           clear hb hbox hg
           refine hK.out _ _ ⟨(blk_cell BK284.out 0).trans rfl, (blk_cell BK284.out 1).trans rfl⟩ (fun hHeld => ?_)
           clear hK K
           refine norm_ (a' := ?_) ?_ ?_
           rotate_left
           ·show Act.put _ (some 5) _ = _
            simp only [Act.put, List.setIfInBounds_toArray, List.set_cons_zero, List.set_cons_succ, i64_w, i32_w]
            rfl
           refine one_ (i := 6) (N := some 38) #[oT,oT,oT,oT,oT,oT,oT,oF,oF,oF,oT,oF,oF] rfl rfl (one_of HT_.out (by kernel_rfl)) (by decide) (fun K hK => ?_)
           refine goes_ Try.func42 (by kernel_rfl) rfl #[.agg #[.int .i64 x285000_1, .slice Ao30 x285001_1.length co30], .int .i64 t291] (by rfl) rfl rfl mt_ ?_
           with_reducible refine (spec_SlabGive.calls kj16 x285000_1 _ _ x285001_1 t291 t294 t295 t298 _ ?side1 ?side2 A28.out).mono ?_
           (case side1 => repeat (first | exact (Kd.R_reads' HO_285001.out).2.2 | (with_reducible refine Kd.C_alloc ?_ _) | (with_reducible refine Kd.C_drewN ?_ _) | (with_reducible refine Kd.C_drew ?_)))
           (case side2 => exact (Kd.R_reads' HO_285001.out).2.1)
           rintro e w34 ⟨v296, rfl, ho0, hb⟩
           refine ⟨_, rfl, ?_⟩
           have n0_ := Aside0.mk (Kd.R_elder' (kr_ HO_285001) (Kd.R_base ho0) hb)
           have n1_ := Aside0.mk (Kd.R_lower (Kd.R_new' ho0 (Kd.R_lt (kr_ HO_285001))) (keep_size (w := w) (g := g) (row := none) (by repeat (first | (with_reducible first | exact HK.out | apply KeepBut.set_ | apply keep_drewN | apply keep_drew | apply keep_alloc | refine keep_far ?_ GW273.out _ | refine keep_far ?_ GW284.out _ | refine keep_far ?_ GW299.out _) | exact HK.out))))
           have n2_ := Aside0.mk (blk_below (g := gb273) (o := .cells #[.int .i64 0, .slice none 0 0] 24 (0, 0)) (bk_ BK273) hb)
           have n3_ := Aside0.mk (blk_below (g := gb284) (o := .cells #[.int .i64 x285000_1, .slice Ao30 x285001_1.length co30] 24 (0, 0)) (bk_ BK284) hb)
           have n4_ := Aside0.mk (IsS85.below (by repeat (first | (with_reducible first | exact HI0.out | apply IsS85.alloc | apply IsS85.drewN | apply IsS85.drew | apply IsS85.set_1 | apply IsS85.set_2 | refine IsS85.far ?_ NB0_273.out _ | refine IsS85.far ?_ NB0_284.out _ | refine IsS85.far ?_ NB0_299.out _) | exact HI0.out)) hb)
           have n5_ := Aside0.mk (blk_below (g := gb299) (o := .cells #[.int .i64 0, .slice none 0 0] 24 (0, 0)) (bk_ BK299) hb)
           have n6_ := Aside0.mk (KeepBut.trans (by repeat (first | (with_reducible first | exact HK.out | apply KeepBut.set_ | apply keep_drewN | apply keep_drew | apply keep_alloc | refine keep_far ?_ GW273.out _ | refine keep_far ?_ GW284.out _ | refine keep_far ?_ GW299.out _) | exact HK.out)) (KeepBut.of_below hb g none) (.inl rfl))
           have n7_ := Aside0.mk (below_step (by repeat (first | (with_reducible first | exact HB.out | apply below_alloc | apply pw_below_drewN | apply below_drew1 | refine below_set ?_ (IsS85.ge HI0.out) | refine below_set ?_ GE273.out | refine below_set ?_ GE284.out | refine below_set ?_ GE299.out) | exact HB.out)) hb)
           clear HO_285001
           clear BK273
           clear BK284
           clear HI0
           clear BK299
           clear HK
           clear HB
           have HO_285001 := n0_
           have HO297 := n1_
           have BK273 := n2_
           have BK284 := n3_
           have HI0 := n4_
           have BK299 := n5_
           have HK := n6_
           have HB := n7_
           clear n0_ n1_ n2_ n3_ n4_ n5_ n6_ n7_
           (try clear hb)
           (try clear hb2)
           (try clear hk)
           (try clear hi)
           (try clear ho0)
           refine hK.out _ _ ⟨(blk_cell BK284.out 0).trans rfl, (blk_cell BK284.out 1).trans rfl⟩ (fun hHeld => ?_)
           clear hK K
           refine norm_ (a' := ?_) ?_ ?_
           rotate_left
           ·show Act.put _ (some 38) _ = _
            simp only [Act.put, List.setIfInBounds_toArray, List.set_cons_zero, List.set_cons_succ, i64_w, i32_w]
            rfl
           refine pure_s (i := 7) (N := some 31) #[oT,oT,oT,oT,oT,oT,oT,oT,oF,oF,oT,oF,oF] (any_of HT_.out (by kernel_rfl)) (h := ?_)
           refine pure_s (i := 8) (N := some 39) #[oT,oT,oT,oT,oT,oT,oT,oT,oT,oF,oT,oF,oF] (any_of HT_.out (by kernel_rfl)) (h := ?_)
           refine pure_s (i := 9) (N := some 40) (bs 13 11) (any_of HT_.out (by kernel_rfl)) (h := ?_)
           exact norm_ (by simp only [putAll, Act.put, List.setIfInBounds_toArray, List.set_cons_zero, List.set_cons_succ]) (hCont (v296, gb299) _ ⟨hHeld, (by (with_reducible repeat (first | apply Kd.R_alloc | apply Kd.R_drewN | apply Kd.R_drew)); exact Kd.R_mono HO297.out (fun _ hk => by first | exact hk.2 | grind)), (by (with_reducible repeat (first | apply Kd.R_alloc | apply Kd.R_drewN | apply Kd.R_drew)); exact Kd.R_mono HO_285001.out (fun _ hk => by first | exact hk.2 | grind)), (bk_ BK273), (bk_ BK284), (bk_ BK299), GW299.out, GE299.out, NB0_299.out, NB299_0.out, NB273_299.out, NB299_273.out, NB284_299.out, NB299_284.out, (by repeat (first | (with_reducible first | exact HI0.out | apply IsS85.alloc | apply IsS85.drewN | apply IsS85.drew | apply IsS85.set_1 | apply IsS85.set_2 | refine IsS85.far ?_ NB0_273.out _ | refine IsS85.far ?_ NB0_284.out _ | refine IsS85.far ?_ NB0_299.out _) | exact HI0.out)), (by repeat (first | (with_reducible first | exact HK.out | apply KeepBut.set_ | apply keep_drewN | apply keep_drew | apply keep_alloc | refine keep_far ?_ GW273.out _ | refine keep_far ?_ GW284.out _ | refine keep_far ?_ GW299.out _) | exact HK.out)), (by repeat (first | (with_reducible first | exact HB.out | apply below_alloc | apply pw_below_drewN | apply below_drew1 | refine below_set ?_ (IsS85.ge HI0.out) | refine below_set ?_ GE273.out | refine below_set ?_ GE284.out | refine below_set ?_ GE299.out) | exact HB.out))⟩)
         ·skip
          refine box_step ?hg (N := 5) ?hd (cs := #[.int .i64 0, .slice none 0 0]) (t := 24) ?hr ?_; (case hd => rfl); (case hg => rfl); (case hr => first | (go_simp; done) | (go_simp; rfl))
          intro gb299 hg w32 hbox hb
          have n0_ := Aside0.mk (Kd.R_below (kr_ HO_285001) hb)
          have n1_ := Aside0.mk (blk_below (g := gb273) (o := .cells #[.int .i64 0, .slice none 0 0] 24 (0, 0)) (bk_ BK273) hb)
          have n2_ := Aside0.mk (blk_below (g := gb284) (o := .cells #[.int .i64 x285000_1, .slice Ao30 x285001_1.length co30] 24 (0, 0)) (bk_ BK284) hb)
          have n3_ := Aside0.mk (IsS85.below (by repeat (first | (with_reducible first | exact HI0.out | apply IsS85.alloc | apply IsS85.drewN | apply IsS85.drew | apply IsS85.set_1 | apply IsS85.set_2 | refine IsS85.far ?_ NB0_273.out _ | refine IsS85.far ?_ NB0_284.out _) | exact HI0.out)) hb)
          have n4_ := Aside0.mk (KeepBut.trans (by repeat (first | (with_reducible first | exact HK.out | apply KeepBut.set_ | apply keep_drewN | apply keep_drew | apply keep_alloc | refine keep_far ?_ GW273.out _ | refine keep_far ?_ GW284.out _) | exact HK.out)) (KeepBut.of_below hb g none) (.inl rfl))
          have n5_ := Aside0.mk (below_step (by repeat (first | (with_reducible first | exact HB.out | apply below_alloc | apply pw_below_drewN | apply below_drew1 | refine below_set ?_ (IsS85.ge HI0.out) | refine below_set ?_ GE273.out | refine below_set ?_ GE284.out) | exact HB.out)) hb)
          have n6_ := Aside0.mk (hbox)
          have n7_ := Aside0.mk ((by rw [hg]; exact (keep_size (w := w) (g := g) (row := none) (by repeat (first | (with_reducible first | exact HK.out | apply KeepBut.set_ | apply keep_drewN | apply keep_drew | apply keep_alloc | refine keep_far ?_ GW273.out _ | refine keep_far ?_ GW284.out _) | exact HK.out))) : w.heap.size ≤ gb299))
          have n8_ := Aside0.mk ((Nat.le_trans HW0.out (by rw [hg]; exact (keep_size (w := w) (g := g) (row := none) (by repeat (first | (with_reducible first | exact HK.out | apply KeepBut.set_ | apply keep_drewN | apply keep_drew | apply keep_alloc | refine keep_far ?_ GW273.out _ | refine keep_far ?_ GW284.out _) | exact HK.out))) : w.heap.size ≤ gb299) : w0.heap.size ≤ gb299))
          have n9_ := Aside0.mk ((by rw [hg]; exact Nat.ne_of_lt (blk_lt (g := gb273) (o := .cells #[.int .i64 0, .slice none 0 0] 24 (0, 0)) (bk_ BK273)) : gb273 ≠ gb299))
          have n10_ := Aside0.mk ((by rw [hg]; exact Nat.ne_of_gt (blk_lt (g := gb273) (o := .cells #[.int .i64 0, .slice none 0 0] 24 (0, 0)) (bk_ BK273)) : gb299 ≠ gb273))
          have n11_ := Aside0.mk ((by rw [hg]; exact Nat.ne_of_lt (blk_lt (g := gb284) (o := .cells #[.int .i64 x285000_1, .slice Ao30 x285001_1.length co30] 24 (0, 0)) (bk_ BK284)) : gb284 ≠ gb299))
          have n12_ := Aside0.mk ((by rw [hg]; exact Nat.ne_of_gt (blk_lt (g := gb284) (o := .cells #[.int .i64 x285000_1, .slice Ao30 x285001_1.length co30] 24 (0, 0)) (bk_ BK284)) : gb299 ≠ gb284))
          have n13_ := Aside0.mk ((by rw [hg]; exact Nat.ne_of_lt (IsS85.lt (show IsS85 w0 _ g s0_0 x1001_16 x1002_16 from by repeat (first | (with_reducible first | exact HI0.out | apply IsS85.alloc | apply IsS85.drewN | apply IsS85.drew | apply IsS85.set_1 | apply IsS85.set_2 | refine IsS85.far ?_ NB0_273.out _ | refine IsS85.far ?_ NB0_284.out _) | exact HI0.out))) : g ≠ gb299))
          have n14_ := Aside0.mk ((by rw [hg]; exact Nat.ne_of_gt (IsS85.lt (show IsS85 w0 _ g s0_0 x1001_16 x1002_16 from by repeat (first | (with_reducible first | exact HI0.out | apply IsS85.alloc | apply IsS85.drewN | apply IsS85.drew | apply IsS85.set_1 | apply IsS85.set_2 | refine IsS85.far ?_ NB0_273.out _ | refine IsS85.far ?_ NB0_284.out _) | exact HI0.out))) : gb299 ≠ g))
          clear HO_285001
          clear BK273
          clear BK284
          clear HI0
          clear HK
          clear HB
          have HO_285001 := n0_
          have BK273 := n1_
          have BK284 := n2_
          have HI0 := n3_
          have HK := n4_
          have HB := n5_
          have BK299 := n6_
          have GW299 := n7_
          have GE299 := n8_
          have NB273_299 := n9_
          have NB299_273 := n10_
          have NB284_299 := n11_
          have NB299_284 := n12_
          have NB0_299 := n13_
          have NB299_0 := n14_
          clear n0_ n1_ n2_ n3_ n4_ n5_ n6_ n7_ n8_ n9_ n10_ n11_ n12_ n13_ n14_
          clear hb hbox hg
          refine hK.out _ _ ⟨(blk_cell BK284.out 0).trans rfl, (blk_cell BK284.out 1).trans rfl⟩ (fun hHeld => ?_)
          clear hK K
          refine norm_ (a' := ?_) ?_ ?_
          rotate_left
          ·show Act.put _ (some 5) _ = _
           simp only [Act.put, List.setIfInBounds_toArray, List.set_cons_zero, List.set_cons_succ, i64_w, i32_w]
           rfl
          refine one_ (i := 5) (N := some 37) #[oT,oT,oT,oT,oT,oT,oF,oF,oF,oF,oT,oF,oF] rfl rfl (one_of HT_.out (by kernel_rfl)) (by decide) (fun K hK => ?_)
          refine goes_ Try.func77 (by kernel_rfl) rfl #[.pointer (some ⟨g, 0, none⟩), .int .i64 (x285001_1.length : Int)] (by rfl) rfl rfl mt_ ?_
          with_reducible refine (spec_l01Cur_pick.calls g s0_0 x1001_16 x1002_16 (x285001_1.length : Int) t291 t292 t293 w0 _ ?side1 ?side2 A27.out).mono ?_
          (case side1 => repeat (first | (with_reducible first | exact HI0.out | apply IsS85.alloc | apply IsS85.drewN | apply IsS85.drew | apply IsS85.set_1 | apply IsS85.set_2 | refine IsS85.far ?_ NB0_273.out _ | refine IsS85.far ?_ NB0_284.out _ | refine IsS85.far ?_ NB0_299.out _) | exact HI0.out))
          (case side2 => repeat (first | (with_reducible first | exact HB.out | apply below_alloc | apply pw_below_drewN | apply below_drew1 | refine below_set ?_ (IsS85.ge HI0.out) | refine below_set ?_ GE273.out | refine below_set ?_ GE284.out | refine below_set ?_ GE299.out) | exact HB.out))
          rintro e w33 ⟨rfl, hi, hb, hk⟩
          refine ⟨_, rfl, ?_⟩
          have n0_ := Aside0.mk (Kd.R_mono (Kd.R_keep (IsS85.apart (show IsS85 w0 _ g s0_0 x1001_16 x1002_16 from by repeat (first | (with_reducible first | exact HI0.out | apply IsS85.alloc | apply IsS85.drewN | apply IsS85.drew | apply IsS85.set_1 | apply IsS85.set_2 | refine IsS85.far ?_ NB0_273.out _ | refine IsS85.far ?_ NB0_284.out _ | refine IsS85.far ?_ NB0_299.out _) | exact HI0.out)) (kr_ HO_285001) (by decide)) hk (fun _ h => h.2)) (fun _ h => h.1))
          have n1_ := Aside0.mk (KeepBut.blk hk (g' := gb273) (o := .cells #[.int .i64 0, .slice none 0 0] 24 (0, 0)) (bk_ BK273) NB273_0.out (by simp))
          have n2_ := Aside0.mk (KeepBut.blk hk (g' := gb284) (o := .cells #[.int .i64 x285000_1, .slice Ao30 x285001_1.length co30] 24 (0, 0)) (bk_ BK284) NB284_0.out (by simp))
          have n3_ := Aside0.mk (KeepBut.blk hk (g' := gb299) (o := .cells #[.int .i64 0, .slice none 0 0] 24 (0, 0)) (bk_ BK299) NB299_0.out (by simp))
          have n4_ := Aside0.mk (KeepBut.trans (by repeat (first | (with_reducible first | exact HK.out | apply KeepBut.set_ | apply keep_drewN | apply keep_drew | apply keep_alloc | refine keep_far ?_ GW273.out _ | refine keep_far ?_ GW284.out _ | refine keep_far ?_ GW299.out _) | exact HK.out)) hk (.inl rfl))
          have n5_ := Aside0.mk (hb)
          have n6_ := Aside0.mk (hi)
          clear HO_285001
          clear BK273
          clear BK284
          clear BK299
          clear HK
          clear HB
          clear HI0
          have HO_285001 := n0_
          have BK273 := n1_
          have BK284 := n2_
          have BK299 := n3_
          have HK := n4_
          have HB := n5_
          have HI0 := n6_
          clear n0_ n1_ n2_ n3_ n4_ n5_ n6_
          (try clear hb)
          (try clear hb2)
          (try clear hk)
          (try clear hi)
          refine hK.out _ _ ⟨(blk_cell BK284.out 0).trans rfl, (blk_cell BK284.out 1).trans rfl⟩ (fun hHeld => ?_)
          clear hK K
          refine norm_ (a' := ?_) ?_ ?_
          rotate_left
          ·show Act.put _ (some 37) _ = _
           simp only [Act.put, List.setIfInBounds_toArray, List.set_cons_zero, List.set_cons_succ, i64_w, i32_w]
           rfl
          refine one_ (i := 6) (N := some 38) #[oT,oT,oT,oT,oT,oT,oT,oF,oF,oF,oT,oF,oF] rfl rfl (one_of HT_.out (by kernel_rfl)) (by decide) (fun K hK => ?_)
          refine goes_ Try.func42 (by kernel_rfl) rfl #[.agg #[.int .i64 x285000_1, .slice Ao30 x285001_1.length co30], .int .i64 t291] (by rfl) rfl rfl mt_ ?_
          with_reducible refine (spec_SlabGive.calls kj16 x285000_1 _ _ x285001_1 t291 t294 t295 t298 _ ?side1 ?side2 A28.out).mono ?_
          (case side1 => repeat (first | exact (Kd.R_reads' HO_285001.out).2.2 | (with_reducible refine Kd.C_alloc ?_ _) | (with_reducible refine Kd.C_drewN ?_ _) | (with_reducible refine Kd.C_drew ?_)))
          (case side2 => exact (Kd.R_reads' HO_285001.out).2.1)
          rintro e w34 ⟨v296, rfl, ho0, hb⟩
          refine ⟨_, rfl, ?_⟩
          have n0_ := Aside0.mk (Kd.R_elder' (kr_ HO_285001) (Kd.R_base ho0) hb)
          have n1_ := Aside0.mk (Kd.R_lower (Kd.R_new' ho0 (Kd.R_lt (kr_ HO_285001))) (keep_size (w := w) (g := g) (row := none) (by repeat (first | (with_reducible first | exact HK.out | apply KeepBut.set_ | apply keep_drewN | apply keep_drew | apply keep_alloc | refine keep_far ?_ GW273.out _ | refine keep_far ?_ GW284.out _ | refine keep_far ?_ GW299.out _) | exact HK.out))))
          have n2_ := Aside0.mk (blk_below (g := gb273) (o := .cells #[.int .i64 0, .slice none 0 0] 24 (0, 0)) (bk_ BK273) hb)
          have n3_ := Aside0.mk (blk_below (g := gb284) (o := .cells #[.int .i64 x285000_1, .slice Ao30 x285001_1.length co30] 24 (0, 0)) (bk_ BK284) hb)
          have n4_ := Aside0.mk (IsS85.below (by repeat (first | (with_reducible first | exact HI0.out | apply IsS85.alloc | apply IsS85.drewN | apply IsS85.drew | apply IsS85.set_1 | apply IsS85.set_2 | refine IsS85.far ?_ NB0_273.out _ | refine IsS85.far ?_ NB0_284.out _ | refine IsS85.far ?_ NB0_299.out _) | exact HI0.out)) hb)
          have n5_ := Aside0.mk (blk_below (g := gb299) (o := .cells #[.int .i64 0, .slice none 0 0] 24 (0, 0)) (bk_ BK299) hb)
          have n6_ := Aside0.mk (KeepBut.trans (by repeat (first | (with_reducible first | exact HK.out | apply KeepBut.set_ | apply keep_drewN | apply keep_drew | apply keep_alloc | refine keep_far ?_ GW273.out _ | refine keep_far ?_ GW284.out _ | refine keep_far ?_ GW299.out _) | exact HK.out)) (KeepBut.of_below hb g none) (.inl rfl))
          have n7_ := Aside0.mk (below_step (by repeat (first | (with_reducible first | exact HB.out | apply below_alloc | apply pw_below_drewN | apply below_drew1 | refine below_set ?_ (IsS85.ge HI0.out) | refine below_set ?_ GE273.out | refine below_set ?_ GE284.out | refine below_set ?_ GE299.out) | exact HB.out)) hb)
          clear HO_285001
          clear BK273
          clear BK284
          clear HI0
          clear BK299
          clear HK
          clear HB
          have HO_285001 := n0_
          have HO297 := n1_
          have BK273 := n2_
          have BK284 := n3_
          have HI0 := n4_
          have BK299 := n5_
          have HK := n6_
          have HB := n7_
          clear n0_ n1_ n2_ n3_ n4_ n5_ n6_ n7_
          (try clear hb)
          (try clear hb2)
          (try clear hk)
          (try clear hi)
          (try clear ho0)
          refine hK.out _ _ ⟨(blk_cell BK284.out 0).trans rfl, (blk_cell BK284.out 1).trans rfl⟩ (fun hHeld => ?_)
          clear hK K
          refine norm_ (a' := ?_) ?_ ?_
          rotate_left
          ·show Act.put _ (some 38) _ = _
           simp only [Act.put, List.setIfInBounds_toArray, List.set_cons_zero, List.set_cons_succ, i64_w, i32_w]
           rfl
          refine pure_s (i := 7) (N := some 31) #[oT,oT,oT,oT,oT,oT,oT,oT,oF,oF,oT,oF,oF] (any_of HT_.out (by kernel_rfl)) (h := ?_)
          refine pure_s (i := 8) (N := some 39) #[oT,oT,oT,oT,oT,oT,oT,oT,oT,oF,oT,oF,oF] (any_of HT_.out (by kernel_rfl)) (h := ?_)
          refine pure_s (i := 9) (N := some 40) (bs 13 11) (any_of HT_.out (by kernel_rfl)) (h := ?_)
          exact norm_ (by simp only [putAll, Act.put, List.setIfInBounds_toArray, List.set_cons_zero, List.set_cons_succ]) (hCont (v296, gb299) _ ⟨hHeld, (by (with_reducible repeat (first | apply Kd.R_alloc | apply Kd.R_drewN | apply Kd.R_drew)); exact Kd.R_mono HO297.out (fun _ hk => by first | exact hk.2 | grind)), (by (with_reducible repeat (first | apply Kd.R_alloc | apply Kd.R_drewN | apply Kd.R_drew)); exact Kd.R_mono HO_285001.out (fun _ hk => by first | exact hk.2 | grind)), (bk_ BK273), (bk_ BK284), (bk_ BK299), GW299.out, GE299.out, NB0_299.out, NB299_0.out, NB273_299.out, NB299_273.out, NB284_299.out, NB299_284.out, (by repeat (first | (with_reducible first | exact HI0.out | apply IsS85.alloc | apply IsS85.drewN | apply IsS85.drew | apply IsS85.set_1 | apply IsS85.set_2 | refine IsS85.far ?_ NB0_273.out _ | refine IsS85.far ?_ NB0_284.out _ | refine IsS85.far ?_ NB0_299.out _) | exact HI0.out)), (by repeat (first | (with_reducible first | exact HK.out | apply KeepBut.set_ | apply keep_drewN | apply keep_drew | apply keep_alloc | refine keep_far ?_ GW273.out _ | refine keep_far ?_ GW284.out _ | refine keep_far ?_ GW299.out _) | exact HK.out)), (by repeat (first | (with_reducible first | exact HB.out | apply below_alloc | apply pw_below_drewN | apply below_drew1 | refine below_set ?_ (IsS85.ge HI0.out) | refine below_set ?_ GE273.out | refine below_set ?_ GE284.out | refine below_set ?_ GE299.out) | exact HB.out))⟩)
        rintro ⟨v296, gb299⟩ w35 ⟨hS_, h0_, h1_, h2_, h3_, h4_, h5_, h6_, h7_, h8_, h9_, h10_, h11_, h12_, h13_, h14_, h15_⟩
        have n0_ : Aside0 (Kd.R (Kd.int .i64) 3 w35 w.heap.size (fun k_ => some k_ ≠ (.slice Ao30 x285001_1.length co30 : Value).ownBlock) v296 t295) := ⟨h0_⟩
        have n1_ : Aside0 (Kd.R (Kd.int .i64) 3 w35 w.heap.size (fun k_ => some k_ ≠ (v296 : Value).ownBlock) (.slice Ao30 x285001_1.length co30) x285001_1) := ⟨h1_⟩
        have n2_ : Aside0 (w35.heap[gb273]? = some (.cells #[.int .i64 0, .slice none 0 0] 24 (0, 0))) := ⟨h2_⟩
        have n3_ : Aside0 (w35.heap[gb284]? = some (.cells #[.int .i64 x285000_1, .slice Ao30 x285001_1.length co30] 24 (0, 0))) := ⟨h3_⟩
        have n4_ : Aside0 (w35.heap[gb299]? = some (.cells #[.int .i64 0, .slice none 0 0] 24 (0, 0))) := ⟨h4_⟩
        have n5_ : Aside0 (w.heap.size ≤ gb299) := ⟨h5_⟩
        have n6_ : Aside0 (w0.heap.size ≤ gb299) := ⟨h6_⟩
        have n7_ : Aside0 (g ≠ gb299) := ⟨h7_⟩
        have n8_ : Aside0 (gb299 ≠ g) := ⟨h8_⟩
        have n9_ : Aside0 (gb273 ≠ gb299) := ⟨h9_⟩
        have n10_ : Aside0 (gb299 ≠ gb273) := ⟨h10_⟩
        have n11_ : Aside0 (gb284 ≠ gb299) := ⟨h11_⟩
        have n12_ : Aside0 (gb299 ≠ gb284) := ⟨h12_⟩
        have n13_ : Aside0 (IsS85 w0 w35 g s0_0 t292 t293) := ⟨h13_⟩
        have n14_ : Aside0 (KeepBut w w35 g none) := ⟨h14_⟩
        have n15_ : Aside0 (Below w0.heap.size w0 w35) := ⟨h15_⟩
        clear HO_285001
        clear BK273
        clear BK284
        clear HI0
        clear HK
        clear HB
        clear h0_ h1_ h2_ h3_ h4_ h5_ h6_ h7_ h8_ h9_ h10_ h11_ h12_ h13_ h14_ h15_
        have HO297 := n0_
        have HO_285001 := n1_
        have BK273 := n2_
        have BK284 := n3_
        have BK299 := n4_
        have GW299 := n5_
        have GE299 := n6_
        have NB0_299 := n7_
        have NB299_0 := n8_
        have NB273_299 := n9_
        have NB299_273 := n10_
        have NB284_299 := n11_
        have NB299_284 := n12_
        have HI0 := n13_
        have HK := n14_
        have HB := n15_
        clear n0_ n1_ n2_ n3_ n4_ n5_ n6_ n7_ n8_ n9_ n10_ n11_ n12_ n13_ n14_ n15_
        have hHeld : w35.cell? ⟨gb284, 0, none⟩ = some (.int .i64 x285000_1) ∧ w35.cell? ⟨gb284, 1, none⟩ = some (.slice Ao30 x285001_1.length co30) := hS_
        obtain ⟨Ao37, co37, eo37⟩ := Kd.R_slice HO297.out
        (first | subst eo37 | (injection eo37 with f1_ f2_ f3_; have f4_ := f1_.symm; have f5_ := f3_.symm; clear f1_ f2_ f3_; subst f4_; subst f5_))
        refine norm_ (a' := ?_) ?_ ?_
        rotate_left
        ·simp only [putAll, Act.put, List.setIfInBounds_toArray, List.set_cons_zero, List.set_cons_succ]
         rfl
        refine one_ (i := 11) (N := none) (bs 13 12) rfl rfl (one_of HT_.out (by kernel_rfl)) (by decide) (fun K hK => ?_)
        have hs36 : w35.cell? ⟨gb299, 0, none⟩ = some (.int .i64 0) := (blk_cell BK299.out 0).trans rfl
        have hfs36 := blk_frozen BK299.out 0
        have hns36_0 := NB273_299.out
        have hns36_1 := NB284_299.out
        have hms36_0 := NB299_273.out
        have hms36_1 := NB299_284.out
        have hs38 : w35.cell? ⟨gb299, 1, none⟩ = some (.slice none 0 0) := (blk_cell BK299.out 1).trans rfl
        have hfs38 := blk_frozen BK299.out 1
        have hns38_0 := NB273_299.out
        have hns38_1 := NB284_299.out
        have hms38_0 := NB299_273.out
        have hms38_1 := NB299_284.out
        refine skip_ (w1 := ?_) (by rfl) rfl ?_ ?_
        rotate_left
        ·go_simp
         rfl
        refine hK.out _ _ ⟨((cell_far (p := ⟨gb299, _, none⟩) NB284_299.out _).trans (((cell_far (p := ⟨gb299, _, none⟩) NB284_299.out _).trans (hHeld.1)))), ((cell_far (p := ⟨gb299, _, none⟩) NB284_299.out _).trans (((cell_far (p := ⟨gb299, _, none⟩) NB284_299.out _).trans (hHeld.2))))⟩ (fun hHeld => ?_)
        clear hK K
        refine pure_s (i := 12) (N := some 6) (bs 13 13) (any_of HT_.out (by kernel_rfl)) (h := ?_)
        refine done_ (done_of HT_.out (by kernel_rfl)) ?_
        have hnb39 := NB299_273.out
        have hnc39 := NB273_299.out
        have hnb40 := NB299_284.out
        have hnc40 := NB284_299.out
        have hnb41 := NB299_0.out
        have hnc41 := NB0_299.out
        have hcz42_0 : w35.cell? ⟨gb299, 0, none⟩ = some (.int .i64 0) := (blk_cell BK299.out 0).trans rfl
        have hcz42_1 : w35.cell? ⟨gb299, 1, none⟩ = some (.slice none 0 0) := (blk_cell BK299.out 1).trans rfl
        have hfz42_0 := blk_frozen BK299.out 0
        have hfz42_1 := blk_frozen BK299.out 1
        have hnb43 := NB284_273.out
        have hnc43 := NB273_284.out
        have hnb44 := NB284_0.out
        have hnc44 := NB0_284.out
        have hcz45_0 : w35.cell? ⟨gb284, 0, none⟩ = some (.int .i64 x285000_1) := (blk_cell BK284.out 0).trans rfl
        have hcz45_1 : w35.cell? ⟨gb284, 1, none⟩ = some (.slice Ao30 x285001_1.length co30) := (blk_cell BK284.out 1).trans rfl
        have hfz45_0 := blk_frozen BK284.out 0
        have hfz45_1 := blk_frozen BK284.out 1
        try go_wp2
        go_roundg kj16
        case measure => have := HK1.out; have := HJ16.out; omega
        case rel => exact ⟨(wrap64 (x4_1 - 1)), (t292), (t293), (t294), (t295), (.slice Ao37 t295.length co37), (by first | rfl | (simp; done) | (simp [*]; done)), H', ⟨by have := HK1.out; have := HJ16.out; omega⟩, ⟨by (with_reducible repeat (first | apply Kd.R_alloc | apply Kd.R_drewN | apply Kd.R_drew)); exact Kd.R_mono (Kd.R_far (p := ⟨gb284, 1, none⟩) (Kd.R_far (p := ⟨gb284, 0, none⟩) (Kd.R_far (p := ⟨gb299, 1, none⟩) (Kd.R_far (p := ⟨gb299, 0, none⟩) (Kd.R_types (Kd.R_types HO297.out BK299.out (by decide)) BK284.out (by decide)) (fun _ hk => by first | exact hk.1.2 | grind) (.int .i64 t294)) (fun _ hk => by first | exact hk.1.2 | grind) (.slice Ao37 t295.length co37)) (fun _ hk => by first | exact hk.2 | grind) (.int .i64 t294)) (fun _ hk => by first | exact hk.2 | grind) (.slice Ao37 t295.length co37)) (fun _ hk => by first | exact trivial | grind)⟩, ⟨by (with_reducible repeat (first | refine blk_drewN ?_ _ | refine blk_drew ?_ | refine blk_alloc ?_ _)); refine blk_far ?_ NB273_284.out _; (with_reducible repeat (first | refine blk_drewN ?_ _ | refine blk_drew ?_ | refine blk_alloc ?_ _)); refine blk_far ?_ NB273_284.out _; (with_reducible repeat (first | refine blk_drewN ?_ _ | refine blk_drew ?_ | refine blk_alloc ?_ _)); refine blk_far ?_ NB273_299.out _; (with_reducible repeat (first | refine blk_drewN ?_ _ | refine blk_drew ?_ | refine blk_alloc ?_ _)); refine blk_far ?_ NB273_299.out _; exact bk_ BK273⟩, ⟨by (with_reducible repeat (first | refine blk_drewN ?_ _ | refine blk_drew ?_ | refine blk_alloc ?_ _)); refine blk_put (cs := #[.int .i64 t294, .slice Ao30 x285001_1.length co30]) ?_ 1 _ rfl; (with_reducible repeat (first | refine blk_drewN ?_ _ | refine blk_drew ?_ | refine blk_alloc ?_ _)); refine blk_put (cs := #[.int .i64 x285000_1, .slice Ao30 x285001_1.length co30]) ?_ 0 _ rfl; (with_reducible repeat (first | refine blk_drewN ?_ _ | refine blk_drew ?_ | refine blk_alloc ?_ _)); refine blk_far ?_ NB284_299.out _; (with_reducible repeat (first | refine blk_drewN ?_ _ | refine blk_drew ?_ | refine blk_alloc ?_ _)); refine blk_far ?_ NB284_299.out _; exact bk_ BK284⟩, ⟨by repeat (first | (with_reducible first | exact HI0.out | apply IsS85.alloc | apply IsS85.drewN | apply IsS85.drew | apply IsS85.set_1 | apply IsS85.set_2 | refine IsS85.far ?_ NB0_273.out _ | refine IsS85.far ?_ NB0_284.out _ | refine IsS85.far ?_ NB0_299.out _) | exact HI0.out)⟩, ⟨by repeat (first | (with_reducible first | exact HK.out | apply KeepBut.set_ | apply keep_drewN | apply keep_drew | apply keep_alloc | refine keep_far ?_ GW273.out _ | refine keep_far ?_ GW284.out _ | refine keep_far ?_ GW299.out _) | exact HK.out)⟩, ⟨by repeat (first | (with_reducible first | exact HB.out | apply below_alloc | apply pw_below_drewN | apply below_drew1 | refine below_set ?_ (IsS85.ge HI0.out) | refine below_set ?_ GE273.out | refine below_set ?_ GE284.out | refine below_set ?_ GE299.out) | exact HB.out)⟩⟩
       ·rw [if_neg c29] at H
        have c29b0 : (t298 == 0) = false := beq_eq_false_iff_ne.mpr c29
        have c29b1 : (t298 != 0) = true := bne_iff_ne.mpr c29
        have H' := Aside0.mk H
        clear H
        obtain ⟨Ao46, co46, eo46⟩ := Kd.R_slice HO_285001.out
        subst eo46
        try go_wp2
        have n0_ := Aside0.mk (Kd.R_drew HO_285001.out)
        have n1_ := Aside0.mk (blk_drew BK273.out)
        have n2_ := Aside0.mk (blk_drew BK284.out)
        have n3_ := Aside0.mk (IsS85.drew HI0.out)
        have n4_ := Aside0.mk (keep_drew HK.out)
        have n5_ := Aside0.mk (below_drew1 HB.out)
        clear HO_285001
        clear BK273
        clear BK284
        clear HI0
        clear HK
        clear HB
        have HO_285001 := n0_
        have BK273 := n1_
        have BK284 := n2_
        have HI0 := n3_
        have HK := n4_
        have HB := n5_
        clear n0_ n1_ n2_ n3_ n4_ n5_
        refine start_ (n := 13) (S := fun w' => w'.cell? ⟨gb284, 0, none⟩ = some (.int .i64 x285000_1) ∧ w'.cell? ⟨gb284, 1, none⟩ = some (.slice Ao46 x285001_1.length co46)) (ds := []) (bs 13 0) (by kernel_rfl) rfl rfl ⟨(blk_cell BK284.out 0).trans rfl, (blk_cell BK284.out 1).trans rfl⟩ (fun hHeld => ?_); refine with_tabW spec_l01Cur_slab.tab6 spec_l01Cur_slab.bits6 (fun HT_ HW_ => ?_)
        generalize wc.drew = w47 at HO_285001 BK273 BK284 HI0 HK HB hHeld ⊢
        refine pure_s (i := 1) (N := some 33) #[oF,oT,oF,oF,oF,oF,oF,oF,oF,oF,oF,oF,oF] (any_of HT_.out (by kernel_rfl)) (h := ?_)
        refine pure_s (i := 2) (N := some 34) #[oF,oT,oT,oF,oF,oF,oF,oF,oF,oF,oF,oF,oF] (any_of HT_.out (by kernel_rfl)) (h := ?_)
        refine take_ (i := 0) (N := some 32) (v := ?_) (a' := ?_) (bs 13 3) rfl rfl (take_ofW HT_.out HW_.out (by kernel_rfl)) (fun _ _ _ h => h) (Or.inl ⟨by rfl, ?_⟩) hHeld ?_ ?_
        rotate_left
        ·rintro w' ⟨s0, s1⟩
         go_simp
         with_reducible rfl
        rotate_left
        ·simp only [Act.put, List.setIfInBounds_toArray, List.set_cons_zero, List.set_cons_succ, i64_w, i32_w]
         rfl
        refine take_ (i := 3) (N := some 35) (v := ?_) (a' := ?_) (bs 13 4) rfl rfl (take_ofW HT_.out HW_.out (by kernel_rfl)) (fun _ _ _ h => h) (Or.inl ⟨by rfl, ?_⟩) hHeld ?_ ?_
        rotate_left
        ·rintro w' ⟨s0, s1⟩
         go_simp
         with_reducible rfl
        rotate_left
        ·simp only [Act.put, List.setIfInBounds_toArray, List.set_cons_zero, List.set_cons_succ, i64_w, i32_w]
         rfl
        refine pure_s (i := 4) (N := some 36) (bs 13 5) (any_of HT_.out (by kernel_rfl)) (h := ?_)
        refine join_ (σ := Value × Nat) 2 (bs 13 11) (fun s_ => [(37, .int .i64 t291), (38, .tuple #[.agg #[.int .i64 t294, s_.1], .int .i64 t298]), (5, .pointer (some ⟨s_.2, 0, none⟩)), (31, .tuple #[.agg #[.int .i64 t294, s_.1], .int .i64 t298]), (39, .agg #[.int .i64 t294, s_.1]), (40, .int .i64 t298)]) (fun s_ w' => (w'.cell? ⟨gb284, 0, none⟩ = some (.int .i64 x285000_1) ∧ w'.cell? ⟨gb284, 1, none⟩ = some (.slice Ao46 x285001_1.length co46)) ∧ (Kd.R (Kd.int .i64) 3 w' w.heap.size (fun k_ => some k_ ≠ (.slice Ao46 x285001_1.length co46 : Value).ownBlock) s_.1 t295) ∧ (Kd.R (Kd.int .i64) 3 w' w.heap.size (fun k_ => some k_ ≠ (s_.1 : Value).ownBlock) (.slice Ao46 x285001_1.length co46) x285001_1) ∧ (w'.heap[gb273]? = some (.cells #[.int .i64 0, .slice none 0 0] 24 (0, 0))) ∧ (w'.heap[gb284]? = some (.cells #[.int .i64 x285000_1, .slice Ao46 x285001_1.length co46] 24 (0, 0))) ∧ (w'.heap[s_.2]? = some (.cells #[.int .i64 0, .slice none 0 0] 24 (0, 0))) ∧ (w.heap.size ≤ s_.2) ∧ (w0.heap.size ≤ s_.2) ∧ (g ≠ s_.2) ∧ (s_.2 ≠ g) ∧ (gb273 ≠ s_.2) ∧ (s_.2 ≠ gb273) ∧ (gb284 ≠ s_.2) ∧ (s_.2 ≠ gb284) ∧ (IsS85 w0 w' g s0_0 t292 t293) ∧ (KeepBut w w' g none) ∧ (Below w0.heap.size w0 w')) ?_ ?_
        rotate_left
        ·intro hCont
         refine two_ (i := 5) (j := 10) (Ni := some 37) (Nj := some 5) (bs 13 6) #[oT,oT,oT,oT,oT,oF,oF,oF,oF,oF,oT,oF,oF] rfl rfl rfl rfl (two_of HT_.out (by kernel_rfl)) (by decide) (by decide) (fun K hK => ?_) (fun K hK => ?_)
         ·skip
          refine goes_ Try.func77 (by kernel_rfl) rfl #[.pointer (some ⟨g, 0, none⟩), .int .i64 (x285001_1.length : Int)] (by rfl) rfl rfl mt_ ?_
          with_reducible refine (spec_l01Cur_pick.calls g s0_0 x1001_16 x1002_16 (x285001_1.length : Int) t291 t292 t293 w0 _ ?side1 ?side2 A27.out).mono ?_
          (case side1 => repeat (first | (with_reducible first | exact HI0.out | apply IsS85.alloc | apply IsS85.drewN | apply IsS85.drew | apply IsS85.set_1 | apply IsS85.set_2 | refine IsS85.far ?_ NB0_273.out _ | refine IsS85.far ?_ NB0_284.out _) | exact HI0.out))
          (case side2 => repeat (first | (with_reducible first | exact HB.out | apply below_alloc | apply pw_below_drewN | apply below_drew1 | refine below_set ?_ (IsS85.ge HI0.out) | refine below_set ?_ GE273.out | refine below_set ?_ GE284.out) | exact HB.out))
          rintro e w48 ⟨rfl, hi, hb, hk⟩
          refine ⟨_, rfl, ?_⟩
          have n0_ := Aside0.mk (Kd.R_mono (Kd.R_keep (IsS85.apart (show IsS85 w0 _ g s0_0 x1001_16 x1002_16 from by repeat (first | (with_reducible first | exact HI0.out | apply IsS85.alloc | apply IsS85.drewN | apply IsS85.drew | apply IsS85.set_1 | apply IsS85.set_2 | refine IsS85.far ?_ NB0_273.out _ | refine IsS85.far ?_ NB0_284.out _) | exact HI0.out)) (kr_ HO_285001) (by decide)) hk (fun _ h => h.2)) (fun _ h => h.1))
          have n1_ := Aside0.mk (KeepBut.blk hk (g' := gb273) (o := .cells #[.int .i64 0, .slice none 0 0] 24 (0, 0)) (bk_ BK273) NB273_0.out (by simp))
          have n2_ := Aside0.mk (KeepBut.blk hk (g' := gb284) (o := .cells #[.int .i64 x285000_1, .slice Ao46 x285001_1.length co46] 24 (0, 0)) (bk_ BK284) NB284_0.out (by simp))
          have n3_ := Aside0.mk (KeepBut.trans (by repeat (first | (with_reducible first | exact HK.out | apply KeepBut.set_ | apply keep_drewN | apply keep_drew | apply keep_alloc | refine keep_far ?_ GW273.out _ | refine keep_far ?_ GW284.out _) | exact HK.out)) hk (.inl rfl))
          have n4_ := Aside0.mk (hb)
          have n5_ := Aside0.mk (hi)
          clear HO_285001
          clear BK273
          clear BK284
          clear HK
          clear HB
          clear HI0
          have HO_285001 := n0_
          have BK273 := n1_
          have BK284 := n2_
          have HK := n3_
          have HB := n4_
          have HI0 := n5_
          clear n0_ n1_ n2_ n3_ n4_ n5_
          (try clear hb)
          (try clear hb2)
          (try clear hk)
          (try clear hi)
          refine hK.out _ _ ⟨(blk_cell BK284.out 0).trans rfl, (blk_cell BK284.out 1).trans rfl⟩ (fun hHeld => ?_)
          clear hK K
          refine norm_ (a' := ?_) ?_ ?_
          rotate_left
          ·show Act.put _ (some 37) _ = _
           simp only [Act.put, List.setIfInBounds_toArray, List.set_cons_zero, List.set_cons_succ, i64_w, i32_w]
           rfl
          refine two_ (i := 6) (j := 10) (Ni := some 38) (Nj := some 5) (bs 13 7) #[oT,oT,oT,oT,oT,oT,oF,oF,oF,oF,oT,oF,oF] rfl rfl rfl rfl (two_of HT_.out (by kernel_rfl)) (by decide) (by decide) (fun K hK => ?_) (fun K hK => ?_)
          ·skip
           refine goes_ Try.func42 (by kernel_rfl) rfl #[.agg #[.int .i64 x285000_1, .slice Ao46 x285001_1.length co46], .int .i64 t291] (by rfl) rfl rfl mt_ ?_
           with_reducible refine (spec_SlabGive.calls kj16 x285000_1 _ _ x285001_1 t291 t294 t295 t298 _ ?side1 ?side2 A28.out).mono ?_
           (case side1 => repeat (first | exact (Kd.R_reads' HO_285001.out).2.2 | (with_reducible refine Kd.C_alloc ?_ _) | (with_reducible refine Kd.C_drewN ?_ _) | (with_reducible refine Kd.C_drew ?_)))
           (case side2 => exact (Kd.R_reads' HO_285001.out).2.1)
           rintro e w49 ⟨v296, rfl, ho0, hb⟩
           refine ⟨_, rfl, ?_⟩
           have n0_ := Aside0.mk (Kd.R_elder' (kr_ HO_285001) (Kd.R_base ho0) hb)
           have n1_ := Aside0.mk (Kd.R_lower (Kd.R_new' ho0 (Kd.R_lt (kr_ HO_285001))) (keep_size (w := w) (g := g) (row := none) (by repeat (first | (with_reducible first | exact HK.out | apply KeepBut.set_ | apply keep_drewN | apply keep_drew | apply keep_alloc | refine keep_far ?_ GW273.out _ | refine keep_far ?_ GW284.out _) | exact HK.out))))
           have n2_ := Aside0.mk (blk_below (g := gb273) (o := .cells #[.int .i64 0, .slice none 0 0] 24 (0, 0)) (bk_ BK273) hb)
           have n3_ := Aside0.mk (blk_below (g := gb284) (o := .cells #[.int .i64 x285000_1, .slice Ao46 x285001_1.length co46] 24 (0, 0)) (bk_ BK284) hb)
           have n4_ := Aside0.mk (IsS85.below (by repeat (first | (with_reducible first | exact HI0.out | apply IsS85.alloc | apply IsS85.drewN | apply IsS85.drew | apply IsS85.set_1 | apply IsS85.set_2 | refine IsS85.far ?_ NB0_273.out _ | refine IsS85.far ?_ NB0_284.out _) | exact HI0.out)) hb)
           have n5_ := Aside0.mk (KeepBut.trans (by repeat (first | (with_reducible first | exact HK.out | apply KeepBut.set_ | apply keep_drewN | apply keep_drew | apply keep_alloc | refine keep_far ?_ GW273.out _ | refine keep_far ?_ GW284.out _) | exact HK.out)) (KeepBut.of_below hb g none) (.inl rfl))
           have n6_ := Aside0.mk (below_step (by repeat (first | (with_reducible first | exact HB.out | apply below_alloc | apply pw_below_drewN | apply below_drew1 | refine below_set ?_ (IsS85.ge HI0.out) | refine below_set ?_ GE273.out | refine below_set ?_ GE284.out) | exact HB.out)) hb)
           clear HO_285001
           clear BK273
           clear BK284
           clear HI0
           clear HK
           clear HB
           have HO_285001 := n0_
           have HO297 := n1_
           have BK273 := n2_
           have BK284 := n3_
           have HI0 := n4_
           have HK := n5_
           have HB := n6_
           clear n0_ n1_ n2_ n3_ n4_ n5_ n6_
           (try clear hb)
           (try clear hb2)
           (try clear hk)
           (try clear hi)
           (try clear ho0)
           refine hK.out _ _ ⟨(blk_cell BK284.out 0).trans rfl, (blk_cell BK284.out 1).trans rfl⟩ (fun hHeld => ?_)
           clear hK K
           refine norm_ (a' := ?_) ?_ ?_
           rotate_left
           ·show Act.put _ (some 38) _ = _
            simp only [Act.put, List.setIfInBounds_toArray, List.set_cons_zero, List.set_cons_succ, i64_w, i32_w]
            rfl
           refine pure_s (i := 7) (N := some 31) (bs 13 8) (any_of HT_.out (by kernel_rfl)) (h := ?_)
           refine pure_s (i := 8) (N := some 39) (bs 13 9) (any_of HT_.out (by kernel_rfl)) (h := ?_)
           refine pure_s (i := 9) (N := some 40) (bs 13 10) (any_of HT_.out (by kernel_rfl)) (h := ?_)
           refine one_ (i := 10) (N := some 5) (bs 13 11) rfl rfl (one_of HT_.out (by kernel_rfl)) (by decide) (fun K hK => ?_)
           refine box_step ?hg (N := 5) ?hd (cs := #[.int .i64 0, .slice none 0 0]) (t := 24) ?hr ?_; (case hd => rfl); (case hg => rfl); (case hr => first | (go_simp; done) | (go_simp; rfl))
           intro gb299 hg w50 hbox hb
           have n0_ := Aside0.mk (Kd.R_below (kr_ HO_285001) hb)
           have n1_ := Aside0.mk (Kd.R_below (kr_ HO297) hb)
           have n2_ := Aside0.mk (blk_below (g := gb273) (o := .cells #[.int .i64 0, .slice none 0 0] 24 (0, 0)) (bk_ BK273) hb)
           have n3_ := Aside0.mk (blk_below (g := gb284) (o := .cells #[.int .i64 x285000_1, .slice Ao46 x285001_1.length co46] 24 (0, 0)) (bk_ BK284) hb)
           have n4_ := Aside0.mk (IsS85.below (by repeat (first | (with_reducible first | exact HI0.out | apply IsS85.alloc | apply IsS85.drewN | apply IsS85.drew | apply IsS85.set_1 | apply IsS85.set_2 | refine IsS85.far ?_ NB0_273.out _ | refine IsS85.far ?_ NB0_284.out _) | exact HI0.out)) hb)
           have n5_ := Aside0.mk (KeepBut.trans (by repeat (first | (with_reducible first | exact HK.out | apply KeepBut.set_ | apply keep_drewN | apply keep_drew | apply keep_alloc | refine keep_far ?_ GW273.out _ | refine keep_far ?_ GW284.out _) | exact HK.out)) (KeepBut.of_below hb g none) (.inl rfl))
           have n6_ := Aside0.mk (below_step (by repeat (first | (with_reducible first | exact HB.out | apply below_alloc | apply pw_below_drewN | apply below_drew1 | refine below_set ?_ (IsS85.ge HI0.out) | refine below_set ?_ GE273.out | refine below_set ?_ GE284.out) | exact HB.out)) hb)
           have n7_ := Aside0.mk (hbox)
           have n8_ := Aside0.mk ((by rw [hg]; exact (keep_size (w := w) (g := g) (row := none) (by repeat (first | (with_reducible first | exact HK.out | apply KeepBut.set_ | apply keep_drewN | apply keep_drew | apply keep_alloc | refine keep_far ?_ GW273.out _ | refine keep_far ?_ GW284.out _) | exact HK.out))) : w.heap.size ≤ gb299))
           have n9_ := Aside0.mk ((Nat.le_trans HW0.out (by rw [hg]; exact (keep_size (w := w) (g := g) (row := none) (by repeat (first | (with_reducible first | exact HK.out | apply KeepBut.set_ | apply keep_drewN | apply keep_drew | apply keep_alloc | refine keep_far ?_ GW273.out _ | refine keep_far ?_ GW284.out _) | exact HK.out))) : w.heap.size ≤ gb299) : w0.heap.size ≤ gb299))
           have n10_ := Aside0.mk ((by rw [hg]; exact Nat.ne_of_lt (blk_lt (g := gb273) (o := .cells #[.int .i64 0, .slice none 0 0] 24 (0, 0)) (bk_ BK273)) : gb273 ≠ gb299))
           have n11_ := Aside0.mk ((by rw [hg]; exact Nat.ne_of_gt (blk_lt (g := gb273) (o := .cells #[.int .i64 0, .slice none 0 0] 24 (0, 0)) (bk_ BK273)) : gb299 ≠ gb273))
           have n12_ := Aside0.mk ((by rw [hg]; exact Nat.ne_of_lt (blk_lt (g := gb284) (o := .cells #[.int .i64 x285000_1, .slice Ao46 x285001_1.length co46] 24 (0, 0)) (bk_ BK284)) : gb284 ≠ gb299))
           have n13_ := Aside0.mk ((by rw [hg]; exact Nat.ne_of_gt (blk_lt (g := gb284) (o := .cells #[.int .i64 x285000_1, .slice Ao46 x285001_1.length co46] 24 (0, 0)) (bk_ BK284)) : gb299 ≠ gb284))
           have n14_ := Aside0.mk ((by rw [hg]; exact Nat.ne_of_lt (IsS85.lt (show IsS85 w0 _ g s0_0 t292 t293 from by repeat (first | (with_reducible first | exact HI0.out | apply IsS85.alloc | apply IsS85.drewN | apply IsS85.drew | apply IsS85.set_1 | apply IsS85.set_2 | refine IsS85.far ?_ NB0_273.out _ | refine IsS85.far ?_ NB0_284.out _) | exact HI0.out))) : g ≠ gb299))
           have n15_ := Aside0.mk ((by rw [hg]; exact Nat.ne_of_gt (IsS85.lt (show IsS85 w0 _ g s0_0 t292 t293 from by repeat (first | (with_reducible first | exact HI0.out | apply IsS85.alloc | apply IsS85.drewN | apply IsS85.drew | apply IsS85.set_1 | apply IsS85.set_2 | refine IsS85.far ?_ NB0_273.out _ | refine IsS85.far ?_ NB0_284.out _) | exact HI0.out))) : gb299 ≠ g))
           clear HO_285001
           clear HO297
           clear BK273
           clear BK284
           clear HI0
           clear HK
           clear HB
           have HO_285001 := n0_
           have HO297 := n1_
           have BK273 := n2_
           have BK284 := n3_
           have HI0 := n4_
           have HK := n5_
           have HB := n6_
           have BK299 := n7_
           have GW299 := n8_
           have GE299 := n9_
           have NB273_299 := n10_
           have NB299_273 := n11_
           have NB284_299 := n12_
           have NB299_284 := n13_
           have NB0_299 := n14_
           have NB299_0 := n15_
           clear n0_ n1_ n2_ n3_ n4_ n5_ n6_ n7_ n8_ n9_ n10_ n11_ n12_ n13_ n14_ n15_
           clear hb hbox hg
           refine hK.out _ _ ⟨(blk_cell BK284.out 0).trans rfl, (blk_cell BK284.out 1).trans rfl⟩ (fun hHeld => ?_)
           clear hK K
           refine norm_ (a' := ?_) ?_ ?_
           rotate_left
           ·show Act.put _ (some 5) _ = _
            simp only [Act.put, List.setIfInBounds_toArray, List.set_cons_zero, List.set_cons_succ, i64_w, i32_w]
            rfl
           exact norm_ (by simp only [putAll, Act.put, List.setIfInBounds_toArray, List.set_cons_zero, List.set_cons_succ]) (hCont (v296, gb299) _ ⟨hHeld, (by (with_reducible repeat (first | apply Kd.R_alloc | apply Kd.R_drewN | apply Kd.R_drew)); exact Kd.R_mono HO297.out (fun _ hk => by first | exact hk.2 | grind)), (by (with_reducible repeat (first | apply Kd.R_alloc | apply Kd.R_drewN | apply Kd.R_drew)); exact Kd.R_mono HO_285001.out (fun _ hk => by first | exact hk.2 | grind)), (bk_ BK273), (bk_ BK284), (bk_ BK299), GW299.out, GE299.out, NB0_299.out, NB299_0.out, NB273_299.out, NB299_273.out, NB284_299.out, NB299_284.out, (by repeat (first | (with_reducible first | exact HI0.out | apply IsS85.alloc | apply IsS85.drewN | apply IsS85.drew | apply IsS85.set_1 | apply IsS85.set_2 | refine IsS85.far ?_ NB0_273.out _ | refine IsS85.far ?_ NB0_284.out _ | refine IsS85.far ?_ NB0_299.out _) | exact HI0.out)), (by repeat (first | (with_reducible first | exact HK.out | apply KeepBut.set_ | apply keep_drewN | apply keep_drew | apply keep_alloc | refine keep_far ?_ GW273.out _ | refine keep_far ?_ GW284.out _ | refine keep_far ?_ GW299.out _) | exact HK.out)), (by repeat (first | (with_reducible first | exact HB.out | apply below_alloc | apply pw_below_drewN | apply below_drew1 | refine below_set ?_ (IsS85.ge HI0.out) | refine below_set ?_ GE273.out | refine below_set ?_ GE284.out | refine below_set ?_ GE299.out) | exact HB.out))⟩)
          ·skip
           refine box_step ?hg (N := 5) ?hd (cs := #[.int .i64 0, .slice none 0 0]) (t := 24) ?hr ?_; (case hd => rfl); (case hg => rfl); (case hr => first | (go_simp; done) | (go_simp; rfl))
           intro gb299 hg w49 hbox hb
           have n0_ := Aside0.mk (Kd.R_below (kr_ HO_285001) hb)
           have n1_ := Aside0.mk (blk_below (g := gb273) (o := .cells #[.int .i64 0, .slice none 0 0] 24 (0, 0)) (bk_ BK273) hb)
           have n2_ := Aside0.mk (blk_below (g := gb284) (o := .cells #[.int .i64 x285000_1, .slice Ao46 x285001_1.length co46] 24 (0, 0)) (bk_ BK284) hb)
           have n3_ := Aside0.mk (IsS85.below (by repeat (first | (with_reducible first | exact HI0.out | apply IsS85.alloc | apply IsS85.drewN | apply IsS85.drew | apply IsS85.set_1 | apply IsS85.set_2 | refine IsS85.far ?_ NB0_273.out _ | refine IsS85.far ?_ NB0_284.out _) | exact HI0.out)) hb)
           have n4_ := Aside0.mk (KeepBut.trans (by repeat (first | (with_reducible first | exact HK.out | apply KeepBut.set_ | apply keep_drewN | apply keep_drew | apply keep_alloc | refine keep_far ?_ GW273.out _ | refine keep_far ?_ GW284.out _) | exact HK.out)) (KeepBut.of_below hb g none) (.inl rfl))
           have n5_ := Aside0.mk (below_step (by repeat (first | (with_reducible first | exact HB.out | apply below_alloc | apply pw_below_drewN | apply below_drew1 | refine below_set ?_ (IsS85.ge HI0.out) | refine below_set ?_ GE273.out | refine below_set ?_ GE284.out) | exact HB.out)) hb)
           have n6_ := Aside0.mk (hbox)
           have n7_ := Aside0.mk ((by rw [hg]; exact (keep_size (w := w) (g := g) (row := none) (by repeat (first | (with_reducible first | exact HK.out | apply KeepBut.set_ | apply keep_drewN | apply keep_drew | apply keep_alloc | refine keep_far ?_ GW273.out _ | refine keep_far ?_ GW284.out _) | exact HK.out))) : w.heap.size ≤ gb299))
           have n8_ := Aside0.mk ((Nat.le_trans HW0.out (by rw [hg]; exact (keep_size (w := w) (g := g) (row := none) (by repeat (first | (with_reducible first | exact HK.out | apply KeepBut.set_ | apply keep_drewN | apply keep_drew | apply keep_alloc | refine keep_far ?_ GW273.out _ | refine keep_far ?_ GW284.out _) | exact HK.out))) : w.heap.size ≤ gb299) : w0.heap.size ≤ gb299))
           have n9_ := Aside0.mk ((by rw [hg]; exact Nat.ne_of_lt (blk_lt (g := gb273) (o := .cells #[.int .i64 0, .slice none 0 0] 24 (0, 0)) (bk_ BK273)) : gb273 ≠ gb299))
           have n10_ := Aside0.mk ((by rw [hg]; exact Nat.ne_of_gt (blk_lt (g := gb273) (o := .cells #[.int .i64 0, .slice none 0 0] 24 (0, 0)) (bk_ BK273)) : gb299 ≠ gb273))
           have n11_ := Aside0.mk ((by rw [hg]; exact Nat.ne_of_lt (blk_lt (g := gb284) (o := .cells #[.int .i64 x285000_1, .slice Ao46 x285001_1.length co46] 24 (0, 0)) (bk_ BK284)) : gb284 ≠ gb299))
           have n12_ := Aside0.mk ((by rw [hg]; exact Nat.ne_of_gt (blk_lt (g := gb284) (o := .cells #[.int .i64 x285000_1, .slice Ao46 x285001_1.length co46] 24 (0, 0)) (bk_ BK284)) : gb299 ≠ gb284))
           have n13_ := Aside0.mk ((by rw [hg]; exact Nat.ne_of_lt (IsS85.lt (show IsS85 w0 _ g s0_0 t292 t293 from by repeat (first | (with_reducible first | exact HI0.out | apply IsS85.alloc | apply IsS85.drewN | apply IsS85.drew | apply IsS85.set_1 | apply IsS85.set_2 | refine IsS85.far ?_ NB0_273.out _ | refine IsS85.far ?_ NB0_284.out _) | exact HI0.out))) : g ≠ gb299))
           have n14_ := Aside0.mk ((by rw [hg]; exact Nat.ne_of_gt (IsS85.lt (show IsS85 w0 _ g s0_0 t292 t293 from by repeat (first | (with_reducible first | exact HI0.out | apply IsS85.alloc | apply IsS85.drewN | apply IsS85.drew | apply IsS85.set_1 | apply IsS85.set_2 | refine IsS85.far ?_ NB0_273.out _ | refine IsS85.far ?_ NB0_284.out _) | exact HI0.out))) : gb299 ≠ g))
           clear HO_285001
           clear BK273
           clear BK284
           clear HI0
           clear HK
           clear HB
           have HO_285001 := n0_
           have BK273 := n1_
           have BK284 := n2_
           have HI0 := n3_
           have HK := n4_
           have HB := n5_
           have BK299 := n6_
           have GW299 := n7_
           have GE299 := n8_
           have NB273_299 := n9_
           have NB299_273 := n10_
           have NB284_299 := n11_
           have NB299_284 := n12_
           have NB0_299 := n13_
           have NB299_0 := n14_
           clear n0_ n1_ n2_ n3_ n4_ n5_ n6_ n7_ n8_ n9_ n10_ n11_ n12_ n13_ n14_
           clear hb hbox hg
           refine hK.out _ _ ⟨(blk_cell BK284.out 0).trans rfl, (blk_cell BK284.out 1).trans rfl⟩ (fun hHeld => ?_)
           clear hK K
           refine norm_ (a' := ?_) ?_ ?_
           rotate_left
           ·show Act.put _ (some 5) _ = _
            simp only [Act.put, List.setIfInBounds_toArray, List.set_cons_zero, List.set_cons_succ, i64_w, i32_w]
            rfl
           refine one_ (i := 6) (N := some 38) #[oT,oT,oT,oT,oT,oT,oT,oF,oF,oF,oT,oF,oF] rfl rfl (one_of HT_.out (by kernel_rfl)) (by decide) (fun K hK => ?_)
           refine goes_ Try.func42 (by kernel_rfl) rfl #[.agg #[.int .i64 x285000_1, .slice Ao46 x285001_1.length co46], .int .i64 t291] (by rfl) rfl rfl mt_ ?_
           with_reducible refine (spec_SlabGive.calls kj16 x285000_1 _ _ x285001_1 t291 t294 t295 t298 _ ?side1 ?side2 A28.out).mono ?_
           (case side1 => repeat (first | exact (Kd.R_reads' HO_285001.out).2.2 | (with_reducible refine Kd.C_alloc ?_ _) | (with_reducible refine Kd.C_drewN ?_ _) | (with_reducible refine Kd.C_drew ?_)))
           (case side2 => exact (Kd.R_reads' HO_285001.out).2.1)
           rintro e w50 ⟨v296, rfl, ho0, hb⟩
           refine ⟨_, rfl, ?_⟩
           have n0_ := Aside0.mk (Kd.R_elder' (kr_ HO_285001) (Kd.R_base ho0) hb)
           have n1_ := Aside0.mk (Kd.R_lower (Kd.R_new' ho0 (Kd.R_lt (kr_ HO_285001))) (keep_size (w := w) (g := g) (row := none) (by repeat (first | (with_reducible first | exact HK.out | apply KeepBut.set_ | apply keep_drewN | apply keep_drew | apply keep_alloc | refine keep_far ?_ GW273.out _ | refine keep_far ?_ GW284.out _ | refine keep_far ?_ GW299.out _) | exact HK.out))))
           have n2_ := Aside0.mk (blk_below (g := gb273) (o := .cells #[.int .i64 0, .slice none 0 0] 24 (0, 0)) (bk_ BK273) hb)
           have n3_ := Aside0.mk (blk_below (g := gb284) (o := .cells #[.int .i64 x285000_1, .slice Ao46 x285001_1.length co46] 24 (0, 0)) (bk_ BK284) hb)
           have n4_ := Aside0.mk (IsS85.below (by repeat (first | (with_reducible first | exact HI0.out | apply IsS85.alloc | apply IsS85.drewN | apply IsS85.drew | apply IsS85.set_1 | apply IsS85.set_2 | refine IsS85.far ?_ NB0_273.out _ | refine IsS85.far ?_ NB0_284.out _ | refine IsS85.far ?_ NB0_299.out _) | exact HI0.out)) hb)
           have n5_ := Aside0.mk (blk_below (g := gb299) (o := .cells #[.int .i64 0, .slice none 0 0] 24 (0, 0)) (bk_ BK299) hb)
           have n6_ := Aside0.mk (KeepBut.trans (by repeat (first | (with_reducible first | exact HK.out | apply KeepBut.set_ | apply keep_drewN | apply keep_drew | apply keep_alloc | refine keep_far ?_ GW273.out _ | refine keep_far ?_ GW284.out _ | refine keep_far ?_ GW299.out _) | exact HK.out)) (KeepBut.of_below hb g none) (.inl rfl))
           have n7_ := Aside0.mk (below_step (by repeat (first | (with_reducible first | exact HB.out | apply below_alloc | apply pw_below_drewN | apply below_drew1 | refine below_set ?_ (IsS85.ge HI0.out) | refine below_set ?_ GE273.out | refine below_set ?_ GE284.out | refine below_set ?_ GE299.out) | exact HB.out)) hb)
           clear HO_285001
           clear BK273
           clear BK284
           clear HI0
           clear BK299
           clear HK
           clear HB
           have HO_285001 := n0_
           have HO297 := n1_
           have BK273 := n2_
           have BK284 := n3_
           have HI0 := n4_
           have BK299 := n5_
           have HK := n6_
           have HB := n7_
           clear n0_ n1_ n2_ n3_ n4_ n5_ n6_ n7_
           (try clear hb)
           (try clear hb2)
           (try clear hk)
           (try clear hi)
           (try clear ho0)
           refine hK.out _ _ ⟨(blk_cell BK284.out 0).trans rfl, (blk_cell BK284.out 1).trans rfl⟩ (fun hHeld => ?_)
           clear hK K
           refine norm_ (a' := ?_) ?_ ?_
           rotate_left
           ·show Act.put _ (some 38) _ = _
            simp only [Act.put, List.setIfInBounds_toArray, List.set_cons_zero, List.set_cons_succ, i64_w, i32_w]
            rfl
           refine pure_s (i := 7) (N := some 31) #[oT,oT,oT,oT,oT,oT,oT,oT,oF,oF,oT,oF,oF] (any_of HT_.out (by kernel_rfl)) (h := ?_)
           refine pure_s (i := 8) (N := some 39) #[oT,oT,oT,oT,oT,oT,oT,oT,oT,oF,oT,oF,oF] (any_of HT_.out (by kernel_rfl)) (h := ?_)
           refine pure_s (i := 9) (N := some 40) (bs 13 11) (any_of HT_.out (by kernel_rfl)) (h := ?_)
           exact norm_ (by simp only [putAll, Act.put, List.setIfInBounds_toArray, List.set_cons_zero, List.set_cons_succ]) (hCont (v296, gb299) _ ⟨hHeld, (by (with_reducible repeat (first | apply Kd.R_alloc | apply Kd.R_drewN | apply Kd.R_drew)); exact Kd.R_mono HO297.out (fun _ hk => by first | exact hk.2 | grind)), (by (with_reducible repeat (first | apply Kd.R_alloc | apply Kd.R_drewN | apply Kd.R_drew)); exact Kd.R_mono HO_285001.out (fun _ hk => by first | exact hk.2 | grind)), (bk_ BK273), (bk_ BK284), (bk_ BK299), GW299.out, GE299.out, NB0_299.out, NB299_0.out, NB273_299.out, NB299_273.out, NB284_299.out, NB299_284.out, (by repeat (first | (with_reducible first | exact HI0.out | apply IsS85.alloc | apply IsS85.drewN | apply IsS85.drew | apply IsS85.set_1 | apply IsS85.set_2 | refine IsS85.far ?_ NB0_273.out _ | refine IsS85.far ?_ NB0_284.out _ | refine IsS85.far ?_ NB0_299.out _) | exact HI0.out)), (by repeat (first | (with_reducible first | exact HK.out | apply KeepBut.set_ | apply keep_drewN | apply keep_drew | apply keep_alloc | refine keep_far ?_ GW273.out _ | refine keep_far ?_ GW284.out _ | refine keep_far ?_ GW299.out _) | exact HK.out)), (by repeat (first | (with_reducible first | exact HB.out | apply below_alloc | apply pw_below_drewN | apply below_drew1 | refine below_set ?_ (IsS85.ge HI0.out) | refine below_set ?_ GE273.out | refine below_set ?_ GE284.out | refine below_set ?_ GE299.out) | exact HB.out))⟩)
         ·skip
          refine box_step ?hg (N := 5) ?hd (cs := #[.int .i64 0, .slice none 0 0]) (t := 24) ?hr ?_; (case hd => rfl); (case hg => rfl); (case hr => first | (go_simp; done) | (go_simp; rfl))
          intro gb299 hg w48 hbox hb
          have n0_ := Aside0.mk (Kd.R_below (kr_ HO_285001) hb)
          have n1_ := Aside0.mk (blk_below (g := gb273) (o := .cells #[.int .i64 0, .slice none 0 0] 24 (0, 0)) (bk_ BK273) hb)
          have n2_ := Aside0.mk (blk_below (g := gb284) (o := .cells #[.int .i64 x285000_1, .slice Ao46 x285001_1.length co46] 24 (0, 0)) (bk_ BK284) hb)
          have n3_ := Aside0.mk (IsS85.below (by repeat (first | (with_reducible first | exact HI0.out | apply IsS85.alloc | apply IsS85.drewN | apply IsS85.drew | apply IsS85.set_1 | apply IsS85.set_2 | refine IsS85.far ?_ NB0_273.out _ | refine IsS85.far ?_ NB0_284.out _) | exact HI0.out)) hb)
          have n4_ := Aside0.mk (KeepBut.trans (by repeat (first | (with_reducible first | exact HK.out | apply KeepBut.set_ | apply keep_drewN | apply keep_drew | apply keep_alloc | refine keep_far ?_ GW273.out _ | refine keep_far ?_ GW284.out _) | exact HK.out)) (KeepBut.of_below hb g none) (.inl rfl))
          have n5_ := Aside0.mk (below_step (by repeat (first | (with_reducible first | exact HB.out | apply below_alloc | apply pw_below_drewN | apply below_drew1 | refine below_set ?_ (IsS85.ge HI0.out) | refine below_set ?_ GE273.out | refine below_set ?_ GE284.out) | exact HB.out)) hb)
          have n6_ := Aside0.mk (hbox)
          have n7_ := Aside0.mk ((by rw [hg]; exact (keep_size (w := w) (g := g) (row := none) (by repeat (first | (with_reducible first | exact HK.out | apply KeepBut.set_ | apply keep_drewN | apply keep_drew | apply keep_alloc | refine keep_far ?_ GW273.out _ | refine keep_far ?_ GW284.out _) | exact HK.out))) : w.heap.size ≤ gb299))
          have n8_ := Aside0.mk ((Nat.le_trans HW0.out (by rw [hg]; exact (keep_size (w := w) (g := g) (row := none) (by repeat (first | (with_reducible first | exact HK.out | apply KeepBut.set_ | apply keep_drewN | apply keep_drew | apply keep_alloc | refine keep_far ?_ GW273.out _ | refine keep_far ?_ GW284.out _) | exact HK.out))) : w.heap.size ≤ gb299) : w0.heap.size ≤ gb299))
          have n9_ := Aside0.mk ((by rw [hg]; exact Nat.ne_of_lt (blk_lt (g := gb273) (o := .cells #[.int .i64 0, .slice none 0 0] 24 (0, 0)) (bk_ BK273)) : gb273 ≠ gb299))
          have n10_ := Aside0.mk ((by rw [hg]; exact Nat.ne_of_gt (blk_lt (g := gb273) (o := .cells #[.int .i64 0, .slice none 0 0] 24 (0, 0)) (bk_ BK273)) : gb299 ≠ gb273))
          have n11_ := Aside0.mk ((by rw [hg]; exact Nat.ne_of_lt (blk_lt (g := gb284) (o := .cells #[.int .i64 x285000_1, .slice Ao46 x285001_1.length co46] 24 (0, 0)) (bk_ BK284)) : gb284 ≠ gb299))
          have n12_ := Aside0.mk ((by rw [hg]; exact Nat.ne_of_gt (blk_lt (g := gb284) (o := .cells #[.int .i64 x285000_1, .slice Ao46 x285001_1.length co46] 24 (0, 0)) (bk_ BK284)) : gb299 ≠ gb284))
          have n13_ := Aside0.mk ((by rw [hg]; exact Nat.ne_of_lt (IsS85.lt (show IsS85 w0 _ g s0_0 x1001_16 x1002_16 from by repeat (first | (with_reducible first | exact HI0.out | apply IsS85.alloc | apply IsS85.drewN | apply IsS85.drew | apply IsS85.set_1 | apply IsS85.set_2 | refine IsS85.far ?_ NB0_273.out _ | refine IsS85.far ?_ NB0_284.out _) | exact HI0.out))) : g ≠ gb299))
          have n14_ := Aside0.mk ((by rw [hg]; exact Nat.ne_of_gt (IsS85.lt (show IsS85 w0 _ g s0_0 x1001_16 x1002_16 from by repeat (first | (with_reducible first | exact HI0.out | apply IsS85.alloc | apply IsS85.drewN | apply IsS85.drew | apply IsS85.set_1 | apply IsS85.set_2 | refine IsS85.far ?_ NB0_273.out _ | refine IsS85.far ?_ NB0_284.out _) | exact HI0.out))) : gb299 ≠ g))
          clear HO_285001
          clear BK273
          clear BK284
          clear HI0
          clear HK
          clear HB
          have HO_285001 := n0_
          have BK273 := n1_
          have BK284 := n2_
          have HI0 := n3_
          have HK := n4_
          have HB := n5_
          have BK299 := n6_
          have GW299 := n7_
          have GE299 := n8_
          have NB273_299 := n9_
          have NB299_273 := n10_
          have NB284_299 := n11_
          have NB299_284 := n12_
          have NB0_299 := n13_
          have NB299_0 := n14_
          clear n0_ n1_ n2_ n3_ n4_ n5_ n6_ n7_ n8_ n9_ n10_ n11_ n12_ n13_ n14_
          clear hb hbox hg
          refine hK.out _ _ ⟨(blk_cell BK284.out 0).trans rfl, (blk_cell BK284.out 1).trans rfl⟩ (fun hHeld => ?_)
          clear hK K
          refine norm_ (a' := ?_) ?_ ?_
          rotate_left
          ·show Act.put _ (some 5) _ = _
           simp only [Act.put, List.setIfInBounds_toArray, List.set_cons_zero, List.set_cons_succ, i64_w, i32_w]
           rfl
          refine one_ (i := 5) (N := some 37) #[oT,oT,oT,oT,oT,oT,oF,oF,oF,oF,oT,oF,oF] rfl rfl (one_of HT_.out (by kernel_rfl)) (by decide) (fun K hK => ?_)
          refine goes_ Try.func77 (by kernel_rfl) rfl #[.pointer (some ⟨g, 0, none⟩), .int .i64 (x285001_1.length : Int)] (by rfl) rfl rfl mt_ ?_
          with_reducible refine (spec_l01Cur_pick.calls g s0_0 x1001_16 x1002_16 (x285001_1.length : Int) t291 t292 t293 w0 _ ?side1 ?side2 A27.out).mono ?_
          (case side1 => repeat (first | (with_reducible first | exact HI0.out | apply IsS85.alloc | apply IsS85.drewN | apply IsS85.drew | apply IsS85.set_1 | apply IsS85.set_2 | refine IsS85.far ?_ NB0_273.out _ | refine IsS85.far ?_ NB0_284.out _ | refine IsS85.far ?_ NB0_299.out _) | exact HI0.out))
          (case side2 => repeat (first | (with_reducible first | exact HB.out | apply below_alloc | apply pw_below_drewN | apply below_drew1 | refine below_set ?_ (IsS85.ge HI0.out) | refine below_set ?_ GE273.out | refine below_set ?_ GE284.out | refine below_set ?_ GE299.out) | exact HB.out))
          rintro e w49 ⟨rfl, hi, hb, hk⟩
          refine ⟨_, rfl, ?_⟩
          have n0_ := Aside0.mk (Kd.R_mono (Kd.R_keep (IsS85.apart (show IsS85 w0 _ g s0_0 x1001_16 x1002_16 from by repeat (first | (with_reducible first | exact HI0.out | apply IsS85.alloc | apply IsS85.drewN | apply IsS85.drew | apply IsS85.set_1 | apply IsS85.set_2 | refine IsS85.far ?_ NB0_273.out _ | refine IsS85.far ?_ NB0_284.out _ | refine IsS85.far ?_ NB0_299.out _) | exact HI0.out)) (kr_ HO_285001) (by decide)) hk (fun _ h => h.2)) (fun _ h => h.1))
          have n1_ := Aside0.mk (KeepBut.blk hk (g' := gb273) (o := .cells #[.int .i64 0, .slice none 0 0] 24 (0, 0)) (bk_ BK273) NB273_0.out (by simp))
          have n2_ := Aside0.mk (KeepBut.blk hk (g' := gb284) (o := .cells #[.int .i64 x285000_1, .slice Ao46 x285001_1.length co46] 24 (0, 0)) (bk_ BK284) NB284_0.out (by simp))
          have n3_ := Aside0.mk (KeepBut.blk hk (g' := gb299) (o := .cells #[.int .i64 0, .slice none 0 0] 24 (0, 0)) (bk_ BK299) NB299_0.out (by simp))
          have n4_ := Aside0.mk (KeepBut.trans (by repeat (first | (with_reducible first | exact HK.out | apply KeepBut.set_ | apply keep_drewN | apply keep_drew | apply keep_alloc | refine keep_far ?_ GW273.out _ | refine keep_far ?_ GW284.out _ | refine keep_far ?_ GW299.out _) | exact HK.out)) hk (.inl rfl))
          have n5_ := Aside0.mk (hb)
          have n6_ := Aside0.mk (hi)
          clear HO_285001
          clear BK273
          clear BK284
          clear BK299
          clear HK
          clear HB
          clear HI0
          have HO_285001 := n0_
          have BK273 := n1_
          have BK284 := n2_
          have BK299 := n3_
          have HK := n4_
          have HB := n5_
          have HI0 := n6_
          clear n0_ n1_ n2_ n3_ n4_ n5_ n6_
          (try clear hb)
          (try clear hb2)
          (try clear hk)
          (try clear hi)
          refine hK.out _ _ ⟨(blk_cell BK284.out 0).trans rfl, (blk_cell BK284.out 1).trans rfl⟩ (fun hHeld => ?_)
          clear hK K
          refine norm_ (a' := ?_) ?_ ?_
          rotate_left
          ·show Act.put _ (some 37) _ = _
           simp only [Act.put, List.setIfInBounds_toArray, List.set_cons_zero, List.set_cons_succ, i64_w, i32_w]
           rfl
          refine one_ (i := 6) (N := some 38) #[oT,oT,oT,oT,oT,oT,oT,oF,oF,oF,oT,oF,oF] rfl rfl (one_of HT_.out (by kernel_rfl)) (by decide) (fun K hK => ?_)
          refine goes_ Try.func42 (by kernel_rfl) rfl #[.agg #[.int .i64 x285000_1, .slice Ao46 x285001_1.length co46], .int .i64 t291] (by rfl) rfl rfl mt_ ?_
          with_reducible refine (spec_SlabGive.calls kj16 x285000_1 _ _ x285001_1 t291 t294 t295 t298 _ ?side1 ?side2 A28.out).mono ?_
          (case side1 => repeat (first | exact (Kd.R_reads' HO_285001.out).2.2 | (with_reducible refine Kd.C_alloc ?_ _) | (with_reducible refine Kd.C_drewN ?_ _) | (with_reducible refine Kd.C_drew ?_)))
          (case side2 => exact (Kd.R_reads' HO_285001.out).2.1)
          rintro e w50 ⟨v296, rfl, ho0, hb⟩
          refine ⟨_, rfl, ?_⟩
          have n0_ := Aside0.mk (Kd.R_elder' (kr_ HO_285001) (Kd.R_base ho0) hb)
          have n1_ := Aside0.mk (Kd.R_lower (Kd.R_new' ho0 (Kd.R_lt (kr_ HO_285001))) (keep_size (w := w) (g := g) (row := none) (by repeat (first | (with_reducible first | exact HK.out | apply KeepBut.set_ | apply keep_drewN | apply keep_drew | apply keep_alloc | refine keep_far ?_ GW273.out _ | refine keep_far ?_ GW284.out _ | refine keep_far ?_ GW299.out _) | exact HK.out))))
          have n2_ := Aside0.mk (blk_below (g := gb273) (o := .cells #[.int .i64 0, .slice none 0 0] 24 (0, 0)) (bk_ BK273) hb)
          have n3_ := Aside0.mk (blk_below (g := gb284) (o := .cells #[.int .i64 x285000_1, .slice Ao46 x285001_1.length co46] 24 (0, 0)) (bk_ BK284) hb)
          have n4_ := Aside0.mk (IsS85.below (by repeat (first | (with_reducible first | exact HI0.out | apply IsS85.alloc | apply IsS85.drewN | apply IsS85.drew | apply IsS85.set_1 | apply IsS85.set_2 | refine IsS85.far ?_ NB0_273.out _ | refine IsS85.far ?_ NB0_284.out _ | refine IsS85.far ?_ NB0_299.out _) | exact HI0.out)) hb)
          have n5_ := Aside0.mk (blk_below (g := gb299) (o := .cells #[.int .i64 0, .slice none 0 0] 24 (0, 0)) (bk_ BK299) hb)
          have n6_ := Aside0.mk (KeepBut.trans (by repeat (first | (with_reducible first | exact HK.out | apply KeepBut.set_ | apply keep_drewN | apply keep_drew | apply keep_alloc | refine keep_far ?_ GW273.out _ | refine keep_far ?_ GW284.out _ | refine keep_far ?_ GW299.out _) | exact HK.out)) (KeepBut.of_below hb g none) (.inl rfl))
          have n7_ := Aside0.mk (below_step (by repeat (first | (with_reducible first | exact HB.out | apply below_alloc | apply pw_below_drewN | apply below_drew1 | refine below_set ?_ (IsS85.ge HI0.out) | refine below_set ?_ GE273.out | refine below_set ?_ GE284.out | refine below_set ?_ GE299.out) | exact HB.out)) hb)
          clear HO_285001
          clear BK273
          clear BK284
          clear HI0
          clear BK299
          clear HK
          clear HB
          have HO_285001 := n0_
          have HO297 := n1_
          have BK273 := n2_
          have BK284 := n3_
          have HI0 := n4_
          have BK299 := n5_
          have HK := n6_
          have HB := n7_
          clear n0_ n1_ n2_ n3_ n4_ n5_ n6_ n7_
          (try clear hb)
          (try clear hb2)
          (try clear hk)
          (try clear hi)
          (try clear ho0)
          refine hK.out _ _ ⟨(blk_cell BK284.out 0).trans rfl, (blk_cell BK284.out 1).trans rfl⟩ (fun hHeld => ?_)
          clear hK K
          refine norm_ (a' := ?_) ?_ ?_
          rotate_left
          ·show Act.put _ (some 38) _ = _
           simp only [Act.put, List.setIfInBounds_toArray, List.set_cons_zero, List.set_cons_succ, i64_w, i32_w]
           rfl
          refine pure_s (i := 7) (N := some 31) #[oT,oT,oT,oT,oT,oT,oT,oT,oF,oF,oT,oF,oF] (any_of HT_.out (by kernel_rfl)) (h := ?_)
          refine pure_s (i := 8) (N := some 39) #[oT,oT,oT,oT,oT,oT,oT,oT,oT,oF,oT,oF,oF] (any_of HT_.out (by kernel_rfl)) (h := ?_)
          refine pure_s (i := 9) (N := some 40) (bs 13 11) (any_of HT_.out (by kernel_rfl)) (h := ?_)
          exact norm_ (by simp only [putAll, Act.put, List.setIfInBounds_toArray, List.set_cons_zero, List.set_cons_succ]) (hCont (v296, gb299) _ ⟨hHeld, (by (with_reducible repeat (first | apply Kd.R_alloc | apply Kd.R_drewN | apply Kd.R_drew)); exact Kd.R_mono HO297.out (fun _ hk => by first | exact hk.2 | grind)), (by (with_reducible repeat (first | apply Kd.R_alloc | apply Kd.R_drewN | apply Kd.R_drew)); exact Kd.R_mono HO_285001.out (fun _ hk => by first | exact hk.2 | grind)), (bk_ BK273), (bk_ BK284), (bk_ BK299), GW299.out, GE299.out, NB0_299.out, NB299_0.out, NB273_299.out, NB299_273.out, NB284_299.out, NB299_284.out, (by repeat (first | (with_reducible first | exact HI0.out | apply IsS85.alloc | apply IsS85.drewN | apply IsS85.drew | apply IsS85.set_1 | apply IsS85.set_2 | refine IsS85.far ?_ NB0_273.out _ | refine IsS85.far ?_ NB0_284.out _ | refine IsS85.far ?_ NB0_299.out _) | exact HI0.out)), (by repeat (first | (with_reducible first | exact HK.out | apply KeepBut.set_ | apply keep_drewN | apply keep_drew | apply keep_alloc | refine keep_far ?_ GW273.out _ | refine keep_far ?_ GW284.out _ | refine keep_far ?_ GW299.out _) | exact HK.out)), (by repeat (first | (with_reducible first | exact HB.out | apply below_alloc | apply pw_below_drewN | apply below_drew1 | refine below_set ?_ (IsS85.ge HI0.out) | refine below_set ?_ GE273.out | refine below_set ?_ GE284.out | refine below_set ?_ GE299.out) | exact HB.out))⟩)
        rintro ⟨v296, gb299⟩ w51 ⟨hS_, h0_, h1_, h2_, h3_, h4_, h5_, h6_, h7_, h8_, h9_, h10_, h11_, h12_, h13_, h14_, h15_⟩
        have n0_ : Aside0 (Kd.R (Kd.int .i64) 3 w51 w.heap.size (fun k_ => some k_ ≠ (.slice Ao46 x285001_1.length co46 : Value).ownBlock) v296 t295) := ⟨h0_⟩
        have n1_ : Aside0 (Kd.R (Kd.int .i64) 3 w51 w.heap.size (fun k_ => some k_ ≠ (v296 : Value).ownBlock) (.slice Ao46 x285001_1.length co46) x285001_1) := ⟨h1_⟩
        have n2_ : Aside0 (w51.heap[gb273]? = some (.cells #[.int .i64 0, .slice none 0 0] 24 (0, 0))) := ⟨h2_⟩
        have n3_ : Aside0 (w51.heap[gb284]? = some (.cells #[.int .i64 x285000_1, .slice Ao46 x285001_1.length co46] 24 (0, 0))) := ⟨h3_⟩
        have n4_ : Aside0 (w51.heap[gb299]? = some (.cells #[.int .i64 0, .slice none 0 0] 24 (0, 0))) := ⟨h4_⟩
        have n5_ : Aside0 (w.heap.size ≤ gb299) := ⟨h5_⟩
        have n6_ : Aside0 (w0.heap.size ≤ gb299) := ⟨h6_⟩
        have n7_ : Aside0 (g ≠ gb299) := ⟨h7_⟩
        have n8_ : Aside0 (gb299 ≠ g) := ⟨h8_⟩
        have n9_ : Aside0 (gb273 ≠ gb299) := ⟨h9_⟩
        have n10_ : Aside0 (gb299 ≠ gb273) := ⟨h10_⟩
        have n11_ : Aside0 (gb284 ≠ gb299) := ⟨h11_⟩
        have n12_ : Aside0 (gb299 ≠ gb284) := ⟨h12_⟩
        have n13_ : Aside0 (IsS85 w0 w51 g s0_0 t292 t293) := ⟨h13_⟩
        have n14_ : Aside0 (KeepBut w w51 g none) := ⟨h14_⟩
        have n15_ : Aside0 (Below w0.heap.size w0 w51) := ⟨h15_⟩
        clear HO_285001
        clear BK273
        clear BK284
        clear HI0
        clear HK
        clear HB
        clear h0_ h1_ h2_ h3_ h4_ h5_ h6_ h7_ h8_ h9_ h10_ h11_ h12_ h13_ h14_ h15_
        have HO297 := n0_
        have HO_285001 := n1_
        have BK273 := n2_
        have BK284 := n3_
        have BK299 := n4_
        have GW299 := n5_
        have GE299 := n6_
        have NB0_299 := n7_
        have NB299_0 := n8_
        have NB273_299 := n9_
        have NB299_273 := n10_
        have NB284_299 := n11_
        have NB299_284 := n12_
        have HI0 := n13_
        have HK := n14_
        have HB := n15_
        clear n0_ n1_ n2_ n3_ n4_ n5_ n6_ n7_ n8_ n9_ n10_ n11_ n12_ n13_ n14_ n15_
        have hHeld : w51.cell? ⟨gb284, 0, none⟩ = some (.int .i64 x285000_1) ∧ w51.cell? ⟨gb284, 1, none⟩ = some (.slice Ao46 x285001_1.length co46) := hS_
        obtain ⟨Ao53, co53, eo53⟩ := Kd.R_slice HO297.out
        (first | subst eo53 | (injection eo53 with f1_ f2_ f3_; have f4_ := f1_.symm; have f5_ := f3_.symm; clear f1_ f2_ f3_; subst f4_; subst f5_))
        refine norm_ (a' := ?_) ?_ ?_
        rotate_left
        ·simp only [putAll, Act.put, List.setIfInBounds_toArray, List.set_cons_zero, List.set_cons_succ]
         rfl
        refine one_ (i := 11) (N := none) (bs 13 12) rfl rfl (one_of HT_.out (by kernel_rfl)) (by decide) (fun K hK => ?_)
        have hs52 : w51.cell? ⟨gb299, 0, none⟩ = some (.int .i64 0) := (blk_cell BK299.out 0).trans rfl
        have hfs52 := blk_frozen BK299.out 0
        have hns52_0 := NB273_299.out
        have hns52_1 := NB284_299.out
        have hms52_0 := NB299_273.out
        have hms52_1 := NB299_284.out
        have hs54 : w51.cell? ⟨gb299, 1, none⟩ = some (.slice none 0 0) := (blk_cell BK299.out 1).trans rfl
        have hfs54 := blk_frozen BK299.out 1
        have hns54_0 := NB273_299.out
        have hns54_1 := NB284_299.out
        have hms54_0 := NB299_273.out
        have hms54_1 := NB299_284.out
        refine skip_ (w1 := ?_) (by rfl) rfl ?_ ?_
        rotate_left
        ·go_simp
         rfl
        refine hK.out _ _ ⟨((cell_far (p := ⟨gb299, _, none⟩) NB284_299.out _).trans (((cell_far (p := ⟨gb299, _, none⟩) NB284_299.out _).trans (hHeld.1)))), ((cell_far (p := ⟨gb299, _, none⟩) NB284_299.out _).trans (((cell_far (p := ⟨gb299, _, none⟩) NB284_299.out _).trans (hHeld.2))))⟩ (fun hHeld => ?_)
        clear hK K
        refine pure_s (i := 12) (N := some 6) (bs 13 13) (any_of HT_.out (by kernel_rfl)) (h := ?_)
        refine done_ (done_of HT_.out (by kernel_rfl)) ?_
        try go_wp2
        go_roundg kj16
        case measure => have := HK1.out; have := HJ16.out; omega
        case rel => exact ⟨(wrap64 (x4_1 - 1)), (t292), (t293), (x285000_1), (x285001_1), (.slice Ao46 x285001_1.length co46), (by first | rfl | (simp; done) | (simp [*]; done)), H', ⟨by have := HK1.out; have := HJ16.out; omega⟩, ⟨by (with_reducible repeat (first | apply Kd.R_alloc | apply Kd.R_drewN | apply Kd.R_drew)); exact Kd.R_mono (Kd.R_far (p := ⟨gb299, 1, none⟩) (Kd.R_far (p := ⟨gb299, 0, none⟩) (Kd.R_types HO_285001.out BK299.out (by decide)) (fun _ hk => by first | exact hk.2 | grind) (.int .i64 t294)) (fun _ hk => by first | exact hk.2 | grind) (.slice Ao53 t295.length co53)) (fun _ hk => by first | exact trivial | grind)⟩, ⟨by (with_reducible repeat (first | refine blk_drewN ?_ _ | refine blk_drew ?_ | refine blk_alloc ?_ _)); refine blk_far ?_ NB273_299.out _; (with_reducible repeat (first | refine blk_drewN ?_ _ | refine blk_drew ?_ | refine blk_alloc ?_ _)); refine blk_far ?_ NB273_299.out _; exact bk_ BK273⟩, ⟨by (with_reducible repeat (first | refine blk_drewN ?_ _ | refine blk_drew ?_ | refine blk_alloc ?_ _)); refine blk_far ?_ NB284_299.out _; (with_reducible repeat (first | refine blk_drewN ?_ _ | refine blk_drew ?_ | refine blk_alloc ?_ _)); refine blk_far ?_ NB284_299.out _; exact bk_ BK284⟩, ⟨by repeat (first | (with_reducible first | exact HI0.out | apply IsS85.alloc | apply IsS85.drewN | apply IsS85.drew | apply IsS85.set_1 | apply IsS85.set_2 | refine IsS85.far ?_ NB0_273.out _ | refine IsS85.far ?_ NB0_284.out _ | refine IsS85.far ?_ NB0_299.out _) | exact HI0.out)⟩, ⟨by repeat (first | (with_reducible first | exact HK.out | apply KeepBut.set_ | apply keep_drewN | apply keep_drew | apply keep_alloc | refine keep_far ?_ GW273.out _ | refine keep_far ?_ GW284.out _ | refine keep_far ?_ GW299.out _) | exact HK.out)⟩, ⟨by repeat (first | (with_reducible first | exact HB.out | apply below_alloc | apply pw_below_drewN | apply below_drew1 | refine below_set ?_ (IsS85.ge HI0.out) | refine below_set ?_ GE273.out | refine below_set ?_ GE284.out | refine below_set ?_ GE299.out) | exact HB.out)⟩⟩
      ·replace c26 := Bool.eq_false_iff.mpr c26
       subst c26
       have H1 : ((spec_l01Cur_pick.f s0_0 x1001_16 x1002_16 5).bind fun bt300 => ((spec_SlabTake.f kj16 x285000_1 x285001_1 (wrap64 (1 + bt300.1))).bind fun bt303 => (if bt303.2.2.2 = 0 then (spec_l01Cur_slab.l0 kj16 (wrap64 (x4_1 - 1)) s0_0 bt300.2.1 bt300.2.2 bt303.1 bt303.2.1) else (spec_l01Cur_slab.l0 kj16 (wrap64 (x4_1 - 1)) s0_0 bt300.2.1 bt300.2.2 x285000_1 x285001_1)))) = some (r1, r2, r3, r4) := by rw [if_neg (show ¬ (false = true) by decide)] at H; exact H
       clear H
       have H := H1
       clear H1
       replace H := Option.bind_eq_some_iff.mp H
       obtain ⟨⟨t300, t301, t302⟩, A550, H⟩ := H
       replace H : ((spec_SlabTake.f kj16 x285000_1 x285001_1 (wrap64 (1 + t300))).bind fun bt303 => (if bt303.2.2.2 = 0 then (spec_l01Cur_slab.l0 kj16 (wrap64 (x4_1 - 1)) s0_0 t301 t302 bt303.1 bt303.2.1) else (spec_l01Cur_slab.l0 kj16 (wrap64 (x4_1 - 1)) s0_0 t301 t302 x285000_1 x285001_1))) = some (r1, r2, r3, r4) := H
       have A55 := Aside0.mk A550
       clear A550
       replace H := Option.bind_eq_some_iff.mp H
       obtain ⟨⟨t303, t304, t307, t308⟩, A560, H⟩ := H
       replace H : (if t308 = 0 then (spec_l01Cur_slab.l0 kj16 (wrap64 (x4_1 - 1)) s0_0 t301 t302 t303 t304) else (spec_l01Cur_slab.l0 kj16 (wrap64 (x4_1 - 1)) s0_0 t301 t302 x285000_1 x285001_1)) = some (r1, r2, r3, r4) := H
       have A56 := Aside0.mk A560
       clear A560
       by_cases c57 : t308 = 0
       ·rw [if_pos c57] at H
        have c57b0 : (t308 == 0) = true := beq_iff_eq.mpr c57
        have c57b1 : (t308 != 0) = false := bne_eq_false_iff_eq.mpr c57
        clear c57
        have H' := Aside0.mk H
        clear H
        obtain ⟨Ao58, co58, eo58⟩ := Kd.R_slice HO_285001.out
        subst eo58
        try go_wp2
        have n0_ := Aside0.mk (Kd.R_drew HO_285001.out)
        have n1_ := Aside0.mk (blk_drew BK273.out)
        have n2_ := Aside0.mk (blk_drew BK284.out)
        have n3_ := Aside0.mk (IsS85.drew HI0.out)
        have n4_ := Aside0.mk (keep_drew HK.out)
        have n5_ := Aside0.mk (below_drew1 HB.out)
        clear HO_285001
        clear BK273
        clear BK284
        clear HI0
        clear HK
        clear HB
        have HO_285001 := n0_
        have BK273 := n1_
        have BK284 := n2_
        have HI0 := n3_
        have HK := n4_
        have HB := n5_
        clear n0_ n1_ n2_ n3_ n4_ n5_
        refine start_ (n := 13) (S := fun w' => w'.cell? ⟨gb284, 0, none⟩ = some (.int .i64 x285000_1) ∧ w'.cell? ⟨gb284, 1, none⟩ = some (.slice Ao58 x285001_1.length co58)) (ds := []) (bs 13 0) (by kernel_rfl) rfl rfl ⟨(blk_cell BK284.out 0).trans rfl, (blk_cell BK284.out 1).trans rfl⟩ (fun hHeld => ?_); refine with_tabW spec_l01Cur_slab.tab9 spec_l01Cur_slab.bits9 (fun HT_ HW_ => ?_)
        generalize wc.drew = w59 at HO_285001 BK273 BK284 HI0 HK HB hHeld ⊢
        refine pure_s (i := 1) (N := some 46) #[oF,oT,oF,oF,oF,oF,oF,oF,oF,oF,oF,oF,oF] (any_of HT_.out (by kernel_rfl)) (h := ?_)
        refine take_ (i := 0) (N := some 45) (v := ?_) (a' := ?_) (bs 13 2) rfl rfl (take_ofW HT_.out HW_.out (by kernel_rfl)) (fun _ _ _ h => h) (Or.inl ⟨by rfl, ?_⟩) hHeld ?_ ?_
        rotate_left
        ·rintro w' ⟨s0, s1⟩
         go_simp
         with_reducible rfl
        rotate_left
        ·simp only [Act.put, List.setIfInBounds_toArray, List.set_cons_zero, List.set_cons_succ, i64_w, i32_w]
         rfl
        refine join_ (σ := Value × Nat) 3 (bs 13 10) (fun s_ => [(47, .int .i64 t300), (49, .tuple #[.agg #[.int .i64 t303, s_.1], .int .i64 t307, .int .i64 t308]), (7, .pointer (some ⟨s_.2, 0, none⟩)), (48, .int .i64 (wrap64 (1 + t300))), (44, .tuple #[.agg #[.int .i64 t303, s_.1], .int .i64 t307, .int .i64 t308]), (50, .agg #[.int .i64 t303, s_.1]), (51, .int .i64 t307), (52, .int .i64 t308)]) (fun s_ w' => (w'.cell? ⟨gb284, 0, none⟩ = some (.int .i64 x285000_1) ∧ w'.cell? ⟨gb284, 1, none⟩ = some (.slice Ao58 x285001_1.length co58)) ∧ (Kd.R (Kd.int .i64) 3 w' w.heap.size (fun k_ => some k_ ≠ (.slice Ao58 x285001_1.length co58 : Value).ownBlock) s_.1 t304) ∧ (Kd.R (Kd.int .i64) 3 w' w.heap.size (fun k_ => some k_ ≠ (s_.1 : Value).ownBlock) (.slice Ao58 x285001_1.length co58) x285001_1) ∧ (w'.heap[gb273]? = some (.cells #[.int .i64 0, .slice none 0 0] 24 (0, 0))) ∧ (w'.heap[gb284]? = some (.cells #[.int .i64 x285000_1, .slice Ao58 x285001_1.length co58] 24 (0, 0))) ∧ (w'.heap[s_.2]? = some (.cells #[.int .i64 0, .slice none 0 0] 24 (0, 0))) ∧ (w.heap.size ≤ s_.2) ∧ (w0.heap.size ≤ s_.2) ∧ (g ≠ s_.2) ∧ (s_.2 ≠ g) ∧ (gb273 ≠ s_.2) ∧ (s_.2 ≠ gb273) ∧ (gb284 ≠ s_.2) ∧ (s_.2 ≠ gb284) ∧ (IsS85 w0 w' g s0_0 t301 t302) ∧ (KeepBut w w' g none) ∧ (Below w0.heap.size w0 w')) ?_ ?_
        rotate_left
        ·intro hCont
         refine two_ (i := 2) (j := 9) (Ni := some 47) (Nj := some 7) (bs 13 3) #[oT,oT,oF,oF,oF,oF,oF,oF,oF,oT,oF,oF,oF] rfl rfl rfl rfl (two_of HT_.out (by kernel_rfl)) (by decide) (by decide) (fun K hK => ?_) (fun K hK => ?_)
         ·skip
          refine goes_ Try.func77 (by kernel_rfl) rfl #[.pointer (some ⟨g, 0, none⟩), .int .i64 5] (by rfl) rfl rfl mt_ ?_
          with_reducible refine (spec_l01Cur_pick.calls g s0_0 x1001_16 x1002_16 5 t300 t301 t302 w0 _ ?side1 ?side2 A55.out).mono ?_
          (case side1 => repeat (first | (with_reducible first | exact HI0.out | apply IsS85.alloc | apply IsS85.drewN | apply IsS85.drew | apply IsS85.set_1 | apply IsS85.set_2 | refine IsS85.far ?_ NB0_273.out _ | refine IsS85.far ?_ NB0_284.out _) | exact HI0.out))
          (case side2 => repeat (first | (with_reducible first | exact HB.out | apply below_alloc | apply pw_below_drewN | apply below_drew1 | refine below_set ?_ (IsS85.ge HI0.out) | refine below_set ?_ GE273.out | refine below_set ?_ GE284.out) | exact HB.out))
          rintro e w60 ⟨rfl, hi, hb, hk⟩
          refine ⟨_, rfl, ?_⟩
          have n0_ := Aside0.mk (Kd.R_mono (Kd.R_keep (IsS85.apart (show IsS85 w0 _ g s0_0 x1001_16 x1002_16 from by repeat (first | (with_reducible first | exact HI0.out | apply IsS85.alloc | apply IsS85.drewN | apply IsS85.drew | apply IsS85.set_1 | apply IsS85.set_2 | refine IsS85.far ?_ NB0_273.out _ | refine IsS85.far ?_ NB0_284.out _) | exact HI0.out)) (kr_ HO_285001) (by decide)) hk (fun _ h => h.2)) (fun _ h => h.1))
          have n1_ := Aside0.mk (KeepBut.blk hk (g' := gb273) (o := .cells #[.int .i64 0, .slice none 0 0] 24 (0, 0)) (bk_ BK273) NB273_0.out (by simp))
          have n2_ := Aside0.mk (KeepBut.blk hk (g' := gb284) (o := .cells #[.int .i64 x285000_1, .slice Ao58 x285001_1.length co58] 24 (0, 0)) (bk_ BK284) NB284_0.out (by simp))
          have n3_ := Aside0.mk (KeepBut.trans (by repeat (first | (with_reducible first | exact HK.out | apply KeepBut.set_ | apply keep_drewN | apply keep_drew | apply keep_alloc | refine keep_far ?_ GW273.out _ | refine keep_far ?_ GW284.out _) | exact HK.out)) hk (.inl rfl))
          have n4_ := Aside0.mk (hb)
          have n5_ := Aside0.mk (hi)
          clear HO_285001
          clear BK273
          clear BK284
          clear HK
          clear HB
          clear HI0
          have HO_285001 := n0_
          have BK273 := n1_
          have BK284 := n2_
          have HK := n3_
          have HB := n4_
          have HI0 := n5_
          clear n0_ n1_ n2_ n3_ n4_ n5_
          (try clear hb)
          (try clear hb2)
          (try clear hk)
          (try clear hi)
          refine hK.out _ _ ⟨(blk_cell BK284.out 0).trans rfl, (blk_cell BK284.out 1).trans rfl⟩ (fun hHeld => ?_)
          clear hK K
          refine norm_ (a' := ?_) ?_ ?_
          rotate_left
          ·show Act.put _ (some 47) _ = _
           simp only [Act.put, List.setIfInBounds_toArray, List.set_cons_zero, List.set_cons_succ, i64_w, i32_w]
           rfl
          refine pure_s (i := 3) (N := some 48) (bs 13 4) (any_of HT_.out (by kernel_rfl)) (h := ?_)
          refine two_ (i := 4) (j := 9) (Ni := some 49) (Nj := some 7) (bs 13 5) #[oT,oT,oT,oT,oF,oF,oF,oF,oF,oT,oF,oF,oF] rfl rfl rfl rfl (two_of HT_.out (by kernel_rfl)) (by decide) (by decide) (fun K hK => ?_) (fun K hK => ?_)
          ·skip
           refine goes_ Try.func44 (by kernel_rfl) rfl #[.agg #[.int .i64 x285000_1, .slice Ao58 x285001_1.length co58], .int .i64 (wrap64 (1 + t300))] (by rfl) rfl rfl mt_ ?_
           with_reducible refine (spec_SlabTake.calls kj16 x285000_1 _ _ x285001_1 (wrap64 (1 + t300)) t303 t304 t307 t308 _ ?side1 ?side2 A56.out).mono ?_
           (case side1 => repeat (first | exact (Kd.R_reads' HO_285001.out).2.2 | (with_reducible refine Kd.C_alloc ?_ _) | (with_reducible refine Kd.C_drewN ?_ _) | (with_reducible refine Kd.C_drew ?_)))
           (case side2 => exact (Kd.R_reads' HO_285001.out).2.1)
           rintro e w61 ⟨v305, rfl, ho0, hb⟩
           refine ⟨_, rfl, ?_⟩
           have n0_ := Aside0.mk (Kd.R_elder' (kr_ HO_285001) (Kd.R_base ho0) hb)
           have n1_ := Aside0.mk (Kd.R_lower (Kd.R_new' ho0 (Kd.R_lt (kr_ HO_285001))) (keep_size (w := w) (g := g) (row := none) (by repeat (first | (with_reducible first | exact HK.out | apply KeepBut.set_ | apply keep_drewN | apply keep_drew | apply keep_alloc | refine keep_far ?_ GW273.out _ | refine keep_far ?_ GW284.out _) | exact HK.out))))
           have n2_ := Aside0.mk (blk_below (g := gb273) (o := .cells #[.int .i64 0, .slice none 0 0] 24 (0, 0)) (bk_ BK273) hb)
           have n3_ := Aside0.mk (blk_below (g := gb284) (o := .cells #[.int .i64 x285000_1, .slice Ao58 x285001_1.length co58] 24 (0, 0)) (bk_ BK284) hb)
           have n4_ := Aside0.mk (IsS85.below (by repeat (first | (with_reducible first | exact HI0.out | apply IsS85.alloc | apply IsS85.drewN | apply IsS85.drew | apply IsS85.set_1 | apply IsS85.set_2 | refine IsS85.far ?_ NB0_273.out _ | refine IsS85.far ?_ NB0_284.out _) | exact HI0.out)) hb)
           have n5_ := Aside0.mk (KeepBut.trans (by repeat (first | (with_reducible first | exact HK.out | apply KeepBut.set_ | apply keep_drewN | apply keep_drew | apply keep_alloc | refine keep_far ?_ GW273.out _ | refine keep_far ?_ GW284.out _) | exact HK.out)) (KeepBut.of_below hb g none) (.inl rfl))
           have n6_ := Aside0.mk (below_step (by repeat (first | (with_reducible first | exact HB.out | apply below_alloc | apply pw_below_drewN | apply below_drew1 | refine below_set ?_ (IsS85.ge HI0.out) | refine below_set ?_ GE273.out | refine below_set ?_ GE284.out) | exact HB.out)) hb)
           clear HO_285001
           clear BK273
           clear BK284
           clear HI0
           clear HK
           clear HB
           have HO_285001 := n0_
           have HO306 := n1_
           have BK273 := n2_
           have BK284 := n3_
           have HI0 := n4_
           have HK := n5_
           have HB := n6_
           clear n0_ n1_ n2_ n3_ n4_ n5_ n6_
           (try clear hb)
           (try clear hb2)
           (try clear hk)
           (try clear hi)
           (try clear ho0)
           refine hK.out _ _ ⟨(blk_cell BK284.out 0).trans rfl, (blk_cell BK284.out 1).trans rfl⟩ (fun hHeld => ?_)
           clear hK K
           refine norm_ (a' := ?_) ?_ ?_
           rotate_left
           ·show Act.put _ (some 49) _ = _
            simp only [Act.put, List.setIfInBounds_toArray, List.set_cons_zero, List.set_cons_succ, i64_w, i32_w]
            rfl
           refine pure_s (i := 5) (N := some 44) (bs 13 6) (any_of HT_.out (by kernel_rfl)) (h := ?_)
           refine pure_s (i := 6) (N := some 50) (bs 13 7) (any_of HT_.out (by kernel_rfl)) (h := ?_)
           refine pure_s (i := 7) (N := some 51) (bs 13 8) (any_of HT_.out (by kernel_rfl)) (h := ?_)
           refine pure_s (i := 8) (N := some 52) (bs 13 9) (any_of HT_.out (by kernel_rfl)) (h := ?_)
           refine one_ (i := 9) (N := some 7) (bs 13 10) rfl rfl (one_of HT_.out (by kernel_rfl)) (by decide) (fun K hK => ?_)
           refine box_step ?hg (N := 7) ?hd (cs := #[.int .i64 0, .slice none 0 0]) (t := 24) ?hr ?_; (case hd => rfl); (case hg => rfl); (case hr => first | (go_simp; done) | (go_simp; rfl))
           intro gb309 hg w62 hbox hb
           have n0_ := Aside0.mk (Kd.R_below (kr_ HO_285001) hb)
           have n1_ := Aside0.mk (Kd.R_below (kr_ HO306) hb)
           have n2_ := Aside0.mk (blk_below (g := gb273) (o := .cells #[.int .i64 0, .slice none 0 0] 24 (0, 0)) (bk_ BK273) hb)
           have n3_ := Aside0.mk (blk_below (g := gb284) (o := .cells #[.int .i64 x285000_1, .slice Ao58 x285001_1.length co58] 24 (0, 0)) (bk_ BK284) hb)
           have n4_ := Aside0.mk (IsS85.below (by repeat (first | (with_reducible first | exact HI0.out | apply IsS85.alloc | apply IsS85.drewN | apply IsS85.drew | apply IsS85.set_1 | apply IsS85.set_2 | refine IsS85.far ?_ NB0_273.out _ | refine IsS85.far ?_ NB0_284.out _) | exact HI0.out)) hb)
           have n5_ := Aside0.mk (KeepBut.trans (by repeat (first | (with_reducible first | exact HK.out | apply KeepBut.set_ | apply keep_drewN | apply keep_drew | apply keep_alloc | refine keep_far ?_ GW273.out _ | refine keep_far ?_ GW284.out _) | exact HK.out)) (KeepBut.of_below hb g none) (.inl rfl))
           have n6_ := Aside0.mk (below_step (by repeat (first | (with_reducible first | exact HB.out | apply below_alloc | apply pw_below_drewN | apply below_drew1 | refine below_set ?_ (IsS85.ge HI0.out) | refine below_set ?_ GE273.out | refine below_set ?_ GE284.out) | exact HB.out)) hb)
           have n7_ := Aside0.mk (hbox)
           have n8_ := Aside0.mk ((by rw [hg]; exact (keep_size (w := w) (g := g) (row := none) (by repeat (first | (with_reducible first | exact HK.out | apply KeepBut.set_ | apply keep_drewN | apply keep_drew | apply keep_alloc | refine keep_far ?_ GW273.out _ | refine keep_far ?_ GW284.out _) | exact HK.out))) : w.heap.size ≤ gb309))
           have n9_ := Aside0.mk ((Nat.le_trans HW0.out (by rw [hg]; exact (keep_size (w := w) (g := g) (row := none) (by repeat (first | (with_reducible first | exact HK.out | apply KeepBut.set_ | apply keep_drewN | apply keep_drew | apply keep_alloc | refine keep_far ?_ GW273.out _ | refine keep_far ?_ GW284.out _) | exact HK.out))) : w.heap.size ≤ gb309) : w0.heap.size ≤ gb309))
           have n10_ := Aside0.mk ((by rw [hg]; exact Nat.ne_of_lt (blk_lt (g := gb273) (o := .cells #[.int .i64 0, .slice none 0 0] 24 (0, 0)) (bk_ BK273)) : gb273 ≠ gb309))
           have n11_ := Aside0.mk ((by rw [hg]; exact Nat.ne_of_gt (blk_lt (g := gb273) (o := .cells #[.int .i64 0, .slice none 0 0] 24 (0, 0)) (bk_ BK273)) : gb309 ≠ gb273))
           have n12_ := Aside0.mk ((by rw [hg]; exact Nat.ne_of_lt (blk_lt (g := gb284) (o := .cells #[.int .i64 x285000_1, .slice Ao58 x285001_1.length co58] 24 (0, 0)) (bk_ BK284)) : gb284 ≠ gb309))
           have n13_ := Aside0.mk ((by rw [hg]; exact Nat.ne_of_gt (blk_lt (g := gb284) (o := .cells #[.int .i64 x285000_1, .slice Ao58 x285001_1.length co58] 24 (0, 0)) (bk_ BK284)) : gb309 ≠ gb284))
           have n14_ := Aside0.mk ((by rw [hg]; exact Nat.ne_of_lt (IsS85.lt (show IsS85 w0 _ g s0_0 t301 t302 from by repeat (first | (with_reducible first | exact HI0.out | apply IsS85.alloc | apply IsS85.drewN | apply IsS85.drew | apply IsS85.set_1 | apply IsS85.set_2 | refine IsS85.far ?_ NB0_273.out _ | refine IsS85.far ?_ NB0_284.out _) | exact HI0.out))) : g ≠ gb309))
           have n15_ := Aside0.mk ((by rw [hg]; exact Nat.ne_of_gt (IsS85.lt (show IsS85 w0 _ g s0_0 t301 t302 from by repeat (first | (with_reducible first | exact HI0.out | apply IsS85.alloc | apply IsS85.drewN | apply IsS85.drew | apply IsS85.set_1 | apply IsS85.set_2 | refine IsS85.far ?_ NB0_273.out _ | refine IsS85.far ?_ NB0_284.out _) | exact HI0.out))) : gb309 ≠ g))
           clear HO_285001
           clear HO306
           clear BK273
           clear BK284
           clear HI0
           clear HK
           clear HB
           have HO_285001 := n0_
           have HO306 := n1_
           have BK273 := n2_
           have BK284 := n3_
           have HI0 := n4_
           have HK := n5_
           have HB := n6_
           have BK309 := n7_
           have GW309 := n8_
           have GE309 := n9_
           have NB273_309 := n10_
           have NB309_273 := n11_
           have NB284_309 := n12_
           have NB309_284 := n13_
           have NB0_309 := n14_
           have NB309_0 := n15_
           clear n0_ n1_ n2_ n3_ n4_ n5_ n6_ n7_ n8_ n9_ n10_ n11_ n12_ n13_ n14_ n15_
           clear hb hbox hg
           refine hK.out _ _ ⟨(blk_cell BK284.out 0).trans rfl, (blk_cell BK284.out 1).trans rfl⟩ (fun hHeld => ?_)
           clear hK K
           refine norm_ (a' := ?_) ?_ ?_
           rotate_left
           ·show Act.put _ (some 7) _ = _
            simp only [Act.put, List.setIfInBounds_toArray, List.set_cons_zero, List.set_cons_succ, i64_w, i32_w]
            rfl
           exact norm_ (by simp only [putAll, Act.put, List.setIfInBounds_toArray, List.set_cons_zero, List.set_cons_succ]) (hCont (v305, gb309) _ ⟨hHeld, (by (with_reducible repeat (first | apply Kd.R_alloc | apply Kd.R_drewN | apply Kd.R_drew)); exact Kd.R_mono HO306.out (fun _ hk => by first | exact hk.2 | grind)), (by (with_reducible repeat (first | apply Kd.R_alloc | apply Kd.R_drewN | apply Kd.R_drew)); exact Kd.R_mono HO_285001.out (fun _ hk => by first | exact hk.2 | grind)), (bk_ BK273), (bk_ BK284), (bk_ BK309), GW309.out, GE309.out, NB0_309.out, NB309_0.out, NB273_309.out, NB309_273.out, NB284_309.out, NB309_284.out, (by repeat (first | (with_reducible first | exact HI0.out | apply IsS85.alloc | apply IsS85.drewN | apply IsS85.drew | apply IsS85.set_1 | apply IsS85.set_2 | refine IsS85.far ?_ NB0_273.out _ | refine IsS85.far ?_ NB0_284.out _ | refine IsS85.far ?_ NB0_309.out _) | exact HI0.out)), (by repeat (first | (with_reducible first | exact HK.out | apply KeepBut.set_ | apply keep_drewN | apply keep_drew | apply keep_alloc | refine keep_far ?_ GW273.out _ | refine keep_far ?_ GW284.out _ | refine keep_far ?_ GW309.out _) | exact HK.out)), (by repeat (first | (with_reducible first | exact HB.out | apply below_alloc | apply pw_below_drewN | apply below_drew1 | refine below_set ?_ (IsS85.ge HI0.out) | refine below_set ?_ GE273.out | refine below_set ?_ GE284.out | refine below_set ?_ GE309.out) | exact HB.out))⟩)
          ·skip
           refine box_step ?hg (N := 7) ?hd (cs := #[.int .i64 0, .slice none 0 0]) (t := 24) ?hr ?_; (case hd => rfl); (case hg => rfl); (case hr => first | (go_simp; done) | (go_simp; rfl))
           intro gb309 hg w61 hbox hb
           have n0_ := Aside0.mk (Kd.R_below (kr_ HO_285001) hb)
           have n1_ := Aside0.mk (blk_below (g := gb273) (o := .cells #[.int .i64 0, .slice none 0 0] 24 (0, 0)) (bk_ BK273) hb)
           have n2_ := Aside0.mk (blk_below (g := gb284) (o := .cells #[.int .i64 x285000_1, .slice Ao58 x285001_1.length co58] 24 (0, 0)) (bk_ BK284) hb)
           have n3_ := Aside0.mk (IsS85.below (by repeat (first | (with_reducible first | exact HI0.out | apply IsS85.alloc | apply IsS85.drewN | apply IsS85.drew | apply IsS85.set_1 | apply IsS85.set_2 | refine IsS85.far ?_ NB0_273.out _ | refine IsS85.far ?_ NB0_284.out _) | exact HI0.out)) hb)
           have n4_ := Aside0.mk (KeepBut.trans (by repeat (first | (with_reducible first | exact HK.out | apply KeepBut.set_ | apply keep_drewN | apply keep_drew | apply keep_alloc | refine keep_far ?_ GW273.out _ | refine keep_far ?_ GW284.out _) | exact HK.out)) (KeepBut.of_below hb g none) (.inl rfl))
           have n5_ := Aside0.mk (below_step (by repeat (first | (with_reducible first | exact HB.out | apply below_alloc | apply pw_below_drewN | apply below_drew1 | refine below_set ?_ (IsS85.ge HI0.out) | refine below_set ?_ GE273.out | refine below_set ?_ GE284.out) | exact HB.out)) hb)
           have n6_ := Aside0.mk (hbox)
           have n7_ := Aside0.mk ((by rw [hg]; exact (keep_size (w := w) (g := g) (row := none) (by repeat (first | (with_reducible first | exact HK.out | apply KeepBut.set_ | apply keep_drewN | apply keep_drew | apply keep_alloc | refine keep_far ?_ GW273.out _ | refine keep_far ?_ GW284.out _) | exact HK.out))) : w.heap.size ≤ gb309))
           have n8_ := Aside0.mk ((Nat.le_trans HW0.out (by rw [hg]; exact (keep_size (w := w) (g := g) (row := none) (by repeat (first | (with_reducible first | exact HK.out | apply KeepBut.set_ | apply keep_drewN | apply keep_drew | apply keep_alloc | refine keep_far ?_ GW273.out _ | refine keep_far ?_ GW284.out _) | exact HK.out))) : w.heap.size ≤ gb309) : w0.heap.size ≤ gb309))
           have n9_ := Aside0.mk ((by rw [hg]; exact Nat.ne_of_lt (blk_lt (g := gb273) (o := .cells #[.int .i64 0, .slice none 0 0] 24 (0, 0)) (bk_ BK273)) : gb273 ≠ gb309))
           have n10_ := Aside0.mk ((by rw [hg]; exact Nat.ne_of_gt (blk_lt (g := gb273) (o := .cells #[.int .i64 0, .slice none 0 0] 24 (0, 0)) (bk_ BK273)) : gb309 ≠ gb273))
           have n11_ := Aside0.mk ((by rw [hg]; exact Nat.ne_of_lt (blk_lt (g := gb284) (o := .cells #[.int .i64 x285000_1, .slice Ao58 x285001_1.length co58] 24 (0, 0)) (bk_ BK284)) : gb284 ≠ gb309))
           have n12_ := Aside0.mk ((by rw [hg]; exact Nat.ne_of_gt (blk_lt (g := gb284) (o := .cells #[.int .i64 x285000_1, .slice Ao58 x285001_1.length co58] 24 (0, 0)) (bk_ BK284)) : gb309 ≠ gb284))
           have n13_ := Aside0.mk ((by rw [hg]; exact Nat.ne_of_lt (IsS85.lt (show IsS85 w0 _ g s0_0 t301 t302 from by repeat (first | (with_reducible first | exact HI0.out | apply IsS85.alloc | apply IsS85.drewN | apply IsS85.drew | apply IsS85.set_1 | apply IsS85.set_2 | refine IsS85.far ?_ NB0_273.out _ | refine IsS85.far ?_ NB0_284.out _) | exact HI0.out))) : g ≠ gb309))
           have n14_ := Aside0.mk ((by rw [hg]; exact Nat.ne_of_gt (IsS85.lt (show IsS85 w0 _ g s0_0 t301 t302 from by repeat (first | (with_reducible first | exact HI0.out | apply IsS85.alloc | apply IsS85.drewN | apply IsS85.drew | apply IsS85.set_1 | apply IsS85.set_2 | refine IsS85.far ?_ NB0_273.out _ | refine IsS85.far ?_ NB0_284.out _) | exact HI0.out))) : gb309 ≠ g))
           clear HO_285001
           clear BK273
           clear BK284
           clear HI0
           clear HK
           clear HB
           have HO_285001 := n0_
           have BK273 := n1_
           have BK284 := n2_
           have HI0 := n3_
           have HK := n4_
           have HB := n5_
           have BK309 := n6_
           have GW309 := n7_
           have GE309 := n8_
           have NB273_309 := n9_
           have NB309_273 := n10_
           have NB284_309 := n11_
           have NB309_284 := n12_
           have NB0_309 := n13_
           have NB309_0 := n14_
           clear n0_ n1_ n2_ n3_ n4_ n5_ n6_ n7_ n8_ n9_ n10_ n11_ n12_ n13_ n14_
           clear hb hbox hg
           refine hK.out _ _ ⟨(blk_cell BK284.out 0).trans rfl, (blk_cell BK284.out 1).trans rfl⟩ (fun hHeld => ?_)
           clear hK K
           refine norm_ (a' := ?_) ?_ ?_
           rotate_left
           ·show Act.put _ (some 7) _ = _
            simp only [Act.put, List.setIfInBounds_toArray, List.set_cons_zero, List.set_cons_succ, i64_w, i32_w]
            rfl
           refine one_ (i := 4) (N := some 49) #[oT,oT,oT,oT,oT,oF,oF,oF,oF,oT,oF,oF,oF] rfl rfl (one_of HT_.out (by kernel_rfl)) (by decide) (fun K hK => ?_)
           refine goes_ Try.func44 (by kernel_rfl) rfl #[.agg #[.int .i64 x285000_1, .slice Ao58 x285001_1.length co58], .int .i64 (wrap64 (1 + t300))] (by rfl) rfl rfl mt_ ?_
           with_reducible refine (spec_SlabTake.calls kj16 x285000_1 _ _ x285001_1 (wrap64 (1 + t300)) t303 t304 t307 t308 _ ?side1 ?side2 A56.out).mono ?_
           (case side1 => repeat (first | exact (Kd.R_reads' HO_285001.out).2.2 | (with_reducible refine Kd.C_alloc ?_ _) | (with_reducible refine Kd.C_drewN ?_ _) | (with_reducible refine Kd.C_drew ?_)))
           (case side2 => exact (Kd.R_reads' HO_285001.out).2.1)
           rintro e w62 ⟨v305, rfl, ho0, hb⟩
           refine ⟨_, rfl, ?_⟩
           have n0_ := Aside0.mk (Kd.R_elder' (kr_ HO_285001) (Kd.R_base ho0) hb)
           have n1_ := Aside0.mk (Kd.R_lower (Kd.R_new' ho0 (Kd.R_lt (kr_ HO_285001))) (keep_size (w := w) (g := g) (row := none) (by repeat (first | (with_reducible first | exact HK.out | apply KeepBut.set_ | apply keep_drewN | apply keep_drew | apply keep_alloc | refine keep_far ?_ GW273.out _ | refine keep_far ?_ GW284.out _ | refine keep_far ?_ GW309.out _) | exact HK.out))))
           have n2_ := Aside0.mk (blk_below (g := gb273) (o := .cells #[.int .i64 0, .slice none 0 0] 24 (0, 0)) (bk_ BK273) hb)
           have n3_ := Aside0.mk (blk_below (g := gb284) (o := .cells #[.int .i64 x285000_1, .slice Ao58 x285001_1.length co58] 24 (0, 0)) (bk_ BK284) hb)
           have n4_ := Aside0.mk (IsS85.below (by repeat (first | (with_reducible first | exact HI0.out | apply IsS85.alloc | apply IsS85.drewN | apply IsS85.drew | apply IsS85.set_1 | apply IsS85.set_2 | refine IsS85.far ?_ NB0_273.out _ | refine IsS85.far ?_ NB0_284.out _ | refine IsS85.far ?_ NB0_309.out _) | exact HI0.out)) hb)
           have n5_ := Aside0.mk (blk_below (g := gb309) (o := .cells #[.int .i64 0, .slice none 0 0] 24 (0, 0)) (bk_ BK309) hb)
           have n6_ := Aside0.mk (KeepBut.trans (by repeat (first | (with_reducible first | exact HK.out | apply KeepBut.set_ | apply keep_drewN | apply keep_drew | apply keep_alloc | refine keep_far ?_ GW273.out _ | refine keep_far ?_ GW284.out _ | refine keep_far ?_ GW309.out _) | exact HK.out)) (KeepBut.of_below hb g none) (.inl rfl))
           have n7_ := Aside0.mk (below_step (by repeat (first | (with_reducible first | exact HB.out | apply below_alloc | apply pw_below_drewN | apply below_drew1 | refine below_set ?_ (IsS85.ge HI0.out) | refine below_set ?_ GE273.out | refine below_set ?_ GE284.out | refine below_set ?_ GE309.out) | exact HB.out)) hb)
           clear HO_285001
           clear BK273
           clear BK284
           clear HI0
           clear BK309
           clear HK
           clear HB
           have HO_285001 := n0_
           have HO306 := n1_
           have BK273 := n2_
           have BK284 := n3_
           have HI0 := n4_
           have BK309 := n5_
           have HK := n6_
           have HB := n7_
           clear n0_ n1_ n2_ n3_ n4_ n5_ n6_ n7_
           (try clear hb)
           (try clear hb2)
           (try clear hk)
           (try clear hi)
           (try clear ho0)
           refine hK.out _ _ ⟨(blk_cell BK284.out 0).trans rfl, (blk_cell BK284.out 1).trans rfl⟩ (fun hHeld => ?_)
           clear hK K
           refine norm_ (a' := ?_) ?_ ?_
           rotate_left
           ·show Act.put _ (some 49) _ = _
            simp only [Act.put, List.setIfInBounds_toArray, List.set_cons_zero, List.set_cons_succ, i64_w, i32_w]
            rfl
           refine pure_s (i := 5) (N := some 44) #[oT,oT,oT,oT,oT,oT,oF,oF,oF,oT,oF,oF,oF] (any_of HT_.out (by kernel_rfl)) (h := ?_)
           refine pure_s (i := 6) (N := some 50) #[oT,oT,oT,oT,oT,oT,oT,oF,oF,oT,oF,oF,oF] (any_of HT_.out (by kernel_rfl)) (h := ?_)
           refine pure_s (i := 7) (N := some 51) #[oT,oT,oT,oT,oT,oT,oT,oT,oF,oT,oF,oF,oF] (any_of HT_.out (by kernel_rfl)) (h := ?_)
           refine pure_s (i := 8) (N := some 52) (bs 13 10) (any_of HT_.out (by kernel_rfl)) (h := ?_)
           exact norm_ (by simp only [putAll, Act.put, List.setIfInBounds_toArray, List.set_cons_zero, List.set_cons_succ]) (hCont (v305, gb309) _ ⟨hHeld, (by (with_reducible repeat (first | apply Kd.R_alloc | apply Kd.R_drewN | apply Kd.R_drew)); exact Kd.R_mono HO306.out (fun _ hk => by first | exact hk.2 | grind)), (by (with_reducible repeat (first | apply Kd.R_alloc | apply Kd.R_drewN | apply Kd.R_drew)); exact Kd.R_mono HO_285001.out (fun _ hk => by first | exact hk.2 | grind)), (bk_ BK273), (bk_ BK284), (bk_ BK309), GW309.out, GE309.out, NB0_309.out, NB309_0.out, NB273_309.out, NB309_273.out, NB284_309.out, NB309_284.out, (by repeat (first | (with_reducible first | exact HI0.out | apply IsS85.alloc | apply IsS85.drewN | apply IsS85.drew | apply IsS85.set_1 | apply IsS85.set_2 | refine IsS85.far ?_ NB0_273.out _ | refine IsS85.far ?_ NB0_284.out _ | refine IsS85.far ?_ NB0_309.out _) | exact HI0.out)), (by repeat (first | (with_reducible first | exact HK.out | apply KeepBut.set_ | apply keep_drewN | apply keep_drew | apply keep_alloc | refine keep_far ?_ GW273.out _ | refine keep_far ?_ GW284.out _ | refine keep_far ?_ GW309.out _) | exact HK.out)), (by repeat (first | (with_reducible first | exact HB.out | apply below_alloc | apply pw_below_drewN | apply below_drew1 | refine below_set ?_ (IsS85.ge HI0.out) | refine below_set ?_ GE273.out | refine below_set ?_ GE284.out | refine below_set ?_ GE309.out) | exact HB.out))⟩)
         ·skip
          refine box_step ?hg (N := 7) ?hd (cs := #[.int .i64 0, .slice none 0 0]) (t := 24) ?hr ?_; (case hd => rfl); (case hg => rfl); (case hr => first | (go_simp; done) | (go_simp; rfl))
          intro gb309 hg w60 hbox hb
          have n0_ := Aside0.mk (Kd.R_below (kr_ HO_285001) hb)
          have n1_ := Aside0.mk (blk_below (g := gb273) (o := .cells #[.int .i64 0, .slice none 0 0] 24 (0, 0)) (bk_ BK273) hb)
          have n2_ := Aside0.mk (blk_below (g := gb284) (o := .cells #[.int .i64 x285000_1, .slice Ao58 x285001_1.length co58] 24 (0, 0)) (bk_ BK284) hb)
          have n3_ := Aside0.mk (IsS85.below (by repeat (first | (with_reducible first | exact HI0.out | apply IsS85.alloc | apply IsS85.drewN | apply IsS85.drew | apply IsS85.set_1 | apply IsS85.set_2 | refine IsS85.far ?_ NB0_273.out _ | refine IsS85.far ?_ NB0_284.out _) | exact HI0.out)) hb)
          have n4_ := Aside0.mk (KeepBut.trans (by repeat (first | (with_reducible first | exact HK.out | apply KeepBut.set_ | apply keep_drewN | apply keep_drew | apply keep_alloc | refine keep_far ?_ GW273.out _ | refine keep_far ?_ GW284.out _) | exact HK.out)) (KeepBut.of_below hb g none) (.inl rfl))
          have n5_ := Aside0.mk (below_step (by repeat (first | (with_reducible first | exact HB.out | apply below_alloc | apply pw_below_drewN | apply below_drew1 | refine below_set ?_ (IsS85.ge HI0.out) | refine below_set ?_ GE273.out | refine below_set ?_ GE284.out) | exact HB.out)) hb)
          have n6_ := Aside0.mk (hbox)
          have n7_ := Aside0.mk ((by rw [hg]; exact (keep_size (w := w) (g := g) (row := none) (by repeat (first | (with_reducible first | exact HK.out | apply KeepBut.set_ | apply keep_drewN | apply keep_drew | apply keep_alloc | refine keep_far ?_ GW273.out _ | refine keep_far ?_ GW284.out _) | exact HK.out))) : w.heap.size ≤ gb309))
          have n8_ := Aside0.mk ((Nat.le_trans HW0.out (by rw [hg]; exact (keep_size (w := w) (g := g) (row := none) (by repeat (first | (with_reducible first | exact HK.out | apply KeepBut.set_ | apply keep_drewN | apply keep_drew | apply keep_alloc | refine keep_far ?_ GW273.out _ | refine keep_far ?_ GW284.out _) | exact HK.out))) : w.heap.size ≤ gb309) : w0.heap.size ≤ gb309))
          have n9_ := Aside0.mk ((by rw [hg]; exact Nat.ne_of_lt (blk_lt (g := gb273) (o := .cells #[.int .i64 0, .slice none 0 0] 24 (0, 0)) (bk_ BK273)) : gb273 ≠ gb309))
          have n10_ := Aside0.mk ((by rw [hg]; exact Nat.ne_of_gt (blk_lt (g := gb273) (o := .cells #[.int .i64 0, .slice none 0 0] 24 (0, 0)) (bk_ BK273)) : gb309 ≠ gb273))
          have n11_ := Aside0.mk ((by rw [hg]; exact Nat.ne_of_lt (blk_lt (g := gb284) (o := .cells #[.int .i64 x285000_1, .slice Ao58 x285001_1.length co58] 24 (0, 0)) (bk_ BK284)) : gb284 ≠ gb309))
          have n12_ := Aside0.mk ((by rw [hg]; exact Nat.ne_of_gt (blk_lt (g := gb284) (o := .cells #[.int .i64 x285000_1, .slice Ao58 x285001_1.length co58] 24 (0, 0)) (bk_ BK284)) : gb309 ≠ gb284))
          have n13_ := Aside0.mk ((by rw [hg]; exact Nat.ne_of_lt (IsS85.lt (show IsS85 w0 _ g s0_0 x1001_16 x1002_16 from by repeat (first | (with_reducible first | exact HI0.out | apply IsS85.alloc | apply IsS85.drewN | apply IsS85.drew | apply IsS85.set_1 | apply IsS85.set_2 | refine IsS85.far ?_ NB0_273.out _ | refine IsS85.far ?_ NB0_284.out _) | exact HI0.out))) : g ≠ gb309))
          have n14_ := Aside0.mk ((by rw [hg]; exact Nat.ne_of_gt (IsS85.lt (show IsS85 w0 _ g s0_0 x1001_16 x1002_16 from by repeat (first | (with_reducible first | exact HI0.out | apply IsS85.alloc | apply IsS85.drewN | apply IsS85.drew | apply IsS85.set_1 | apply IsS85.set_2 | refine IsS85.far ?_ NB0_273.out _ | refine IsS85.far ?_ NB0_284.out _) | exact HI0.out))) : gb309 ≠ g))
          clear HO_285001
          clear BK273
          clear BK284
          clear HI0
          clear HK
          clear HB
          have HO_285001 := n0_
          have BK273 := n1_
          have BK284 := n2_
          have HI0 := n3_
          have HK := n4_
          have HB := n5_
          have BK309 := n6_
          have GW309 := n7_
          have GE309 := n8_
          have NB273_309 := n9_
          have NB309_273 := n10_
          have NB284_309 := n11_
          have NB309_284 := n12_
          have NB0_309 := n13_
          have NB309_0 := n14_
          clear n0_ n1_ n2_ n3_ n4_ n5_ n6_ n7_ n8_ n9_ n10_ n11_ n12_ n13_ n14_
          clear hb hbox hg
          refine hK.out _ _ ⟨(blk_cell BK284.out 0).trans rfl, (blk_cell BK284.out 1).trans rfl⟩ (fun hHeld => ?_)
          clear hK K
          refine norm_ (a' := ?_) ?_ ?_
          rotate_left
          ·show Act.put _ (some 7) _ = _
           simp only [Act.put, List.setIfInBounds_toArray, List.set_cons_zero, List.set_cons_succ, i64_w, i32_w]
           rfl
          refine one_ (i := 2) (N := some 47) #[oT,oT,oT,oF,oF,oF,oF,oF,oF,oT,oF,oF,oF] rfl rfl (one_of HT_.out (by kernel_rfl)) (by decide) (fun K hK => ?_)
          refine goes_ Try.func77 (by kernel_rfl) rfl #[.pointer (some ⟨g, 0, none⟩), .int .i64 5] (by rfl) rfl rfl mt_ ?_
          with_reducible refine (spec_l01Cur_pick.calls g s0_0 x1001_16 x1002_16 5 t300 t301 t302 w0 _ ?side1 ?side2 A55.out).mono ?_
          (case side1 => repeat (first | (with_reducible first | exact HI0.out | apply IsS85.alloc | apply IsS85.drewN | apply IsS85.drew | apply IsS85.set_1 | apply IsS85.set_2 | refine IsS85.far ?_ NB0_273.out _ | refine IsS85.far ?_ NB0_284.out _ | refine IsS85.far ?_ NB0_309.out _) | exact HI0.out))
          (case side2 => repeat (first | (with_reducible first | exact HB.out | apply below_alloc | apply pw_below_drewN | apply below_drew1 | refine below_set ?_ (IsS85.ge HI0.out) | refine below_set ?_ GE273.out | refine below_set ?_ GE284.out | refine below_set ?_ GE309.out) | exact HB.out))
          rintro e w61 ⟨rfl, hi, hb, hk⟩
          refine ⟨_, rfl, ?_⟩
          have n0_ := Aside0.mk (Kd.R_mono (Kd.R_keep (IsS85.apart (show IsS85 w0 _ g s0_0 x1001_16 x1002_16 from by repeat (first | (with_reducible first | exact HI0.out | apply IsS85.alloc | apply IsS85.drewN | apply IsS85.drew | apply IsS85.set_1 | apply IsS85.set_2 | refine IsS85.far ?_ NB0_273.out _ | refine IsS85.far ?_ NB0_284.out _ | refine IsS85.far ?_ NB0_309.out _) | exact HI0.out)) (kr_ HO_285001) (by decide)) hk (fun _ h => h.2)) (fun _ h => h.1))
          have n1_ := Aside0.mk (KeepBut.blk hk (g' := gb273) (o := .cells #[.int .i64 0, .slice none 0 0] 24 (0, 0)) (bk_ BK273) NB273_0.out (by simp))
          have n2_ := Aside0.mk (KeepBut.blk hk (g' := gb284) (o := .cells #[.int .i64 x285000_1, .slice Ao58 x285001_1.length co58] 24 (0, 0)) (bk_ BK284) NB284_0.out (by simp))
          have n3_ := Aside0.mk (KeepBut.blk hk (g' := gb309) (o := .cells #[.int .i64 0, .slice none 0 0] 24 (0, 0)) (bk_ BK309) NB309_0.out (by simp))
          have n4_ := Aside0.mk (KeepBut.trans (by repeat (first | (with_reducible first | exact HK.out | apply KeepBut.set_ | apply keep_drewN | apply keep_drew | apply keep_alloc | refine keep_far ?_ GW273.out _ | refine keep_far ?_ GW284.out _ | refine keep_far ?_ GW309.out _) | exact HK.out)) hk (.inl rfl))
          have n5_ := Aside0.mk (hb)
          have n6_ := Aside0.mk (hi)
          clear HO_285001
          clear BK273
          clear BK284
          clear BK309
          clear HK
          clear HB
          clear HI0
          have HO_285001 := n0_
          have BK273 := n1_
          have BK284 := n2_
          have BK309 := n3_
          have HK := n4_
          have HB := n5_
          have HI0 := n6_
          clear n0_ n1_ n2_ n3_ n4_ n5_ n6_
          (try clear hb)
          (try clear hb2)
          (try clear hk)
          (try clear hi)
          refine hK.out _ _ ⟨(blk_cell BK284.out 0).trans rfl, (blk_cell BK284.out 1).trans rfl⟩ (fun hHeld => ?_)
          clear hK K
          refine norm_ (a' := ?_) ?_ ?_
          rotate_left
          ·show Act.put _ (some 47) _ = _
           simp only [Act.put, List.setIfInBounds_toArray, List.set_cons_zero, List.set_cons_succ, i64_w, i32_w]
           rfl
          refine pure_s (i := 3) (N := some 48) #[oT,oT,oT,oT,oF,oF,oF,oF,oF,oT,oF,oF,oF] (any_of HT_.out (by kernel_rfl)) (h := ?_)
          refine one_ (i := 4) (N := some 49) #[oT,oT,oT,oT,oT,oF,oF,oF,oF,oT,oF,oF,oF] rfl rfl (one_of HT_.out (by kernel_rfl)) (by decide) (fun K hK => ?_)
          refine goes_ Try.func44 (by kernel_rfl) rfl #[.agg #[.int .i64 x285000_1, .slice Ao58 x285001_1.length co58], .int .i64 (wrap64 (1 + t300))] (by rfl) rfl rfl mt_ ?_
          with_reducible refine (spec_SlabTake.calls kj16 x285000_1 _ _ x285001_1 (wrap64 (1 + t300)) t303 t304 t307 t308 _ ?side1 ?side2 A56.out).mono ?_
          (case side1 => repeat (first | exact (Kd.R_reads' HO_285001.out).2.2 | (with_reducible refine Kd.C_alloc ?_ _) | (with_reducible refine Kd.C_drewN ?_ _) | (with_reducible refine Kd.C_drew ?_)))
          (case side2 => exact (Kd.R_reads' HO_285001.out).2.1)
          rintro e w62 ⟨v305, rfl, ho0, hb⟩
          refine ⟨_, rfl, ?_⟩
          have n0_ := Aside0.mk (Kd.R_elder' (kr_ HO_285001) (Kd.R_base ho0) hb)
          have n1_ := Aside0.mk (Kd.R_lower (Kd.R_new' ho0 (Kd.R_lt (kr_ HO_285001))) (keep_size (w := w) (g := g) (row := none) (by repeat (first | (with_reducible first | exact HK.out | apply KeepBut.set_ | apply keep_drewN | apply keep_drew | apply keep_alloc | refine keep_far ?_ GW273.out _ | refine keep_far ?_ GW284.out _ | refine keep_far ?_ GW309.out _) | exact HK.out))))
          have n2_ := Aside0.mk (blk_below (g := gb273) (o := .cells #[.int .i64 0, .slice none 0 0] 24 (0, 0)) (bk_ BK273) hb)
          have n3_ := Aside0.mk (blk_below (g := gb284) (o := .cells #[.int .i64 x285000_1, .slice Ao58 x285001_1.length co58] 24 (0, 0)) (bk_ BK284) hb)
          have n4_ := Aside0.mk (IsS85.below (by repeat (first | (with_reducible first | exact HI0.out | apply IsS85.alloc | apply IsS85.drewN | apply IsS85.drew | apply IsS85.set_1 | apply IsS85.set_2 | refine IsS85.far ?_ NB0_273.out _ | refine IsS85.far ?_ NB0_284.out _ | refine IsS85.far ?_ NB0_309.out _) | exact HI0.out)) hb)
          have n5_ := Aside0.mk (blk_below (g := gb309) (o := .cells #[.int .i64 0, .slice none 0 0] 24 (0, 0)) (bk_ BK309) hb)
          have n6_ := Aside0.mk (KeepBut.trans (by repeat (first | (with_reducible first | exact HK.out | apply KeepBut.set_ | apply keep_drewN | apply keep_drew | apply keep_alloc | refine keep_far ?_ GW273.out _ | refine keep_far ?_ GW284.out _ | refine keep_far ?_ GW309.out _) | exact HK.out)) (KeepBut.of_below hb g none) (.inl rfl))
          have n7_ := Aside0.mk (below_step (by repeat (first | (with_reducible first | exact HB.out | apply below_alloc | apply pw_below_drewN | apply below_drew1 | refine below_set ?_ (IsS85.ge HI0.out) | refine below_set ?_ GE273.out | refine below_set ?_ GE284.out | refine below_set ?_ GE309.out) | exact HB.out)) hb)
          clear HO_285001
          clear BK273
          clear BK284
          clear HI0
          clear BK309
          clear HK
          clear HB
          have HO_285001 := n0_
          have HO306 := n1_
          have BK273 := n2_
          have BK284 := n3_
          have HI0 := n4_
          have BK309 := n5_
          have HK := n6_
          have HB := n7_
          clear n0_ n1_ n2_ n3_ n4_ n5_ n6_ n7_
          (try clear hb)
          (try clear hb2)
          (try clear hk)
          (try clear hi)
          (try clear ho0)
          refine hK.out _ _ ⟨(blk_cell BK284.out 0).trans rfl, (blk_cell BK284.out 1).trans rfl⟩ (fun hHeld => ?_)
          clear hK K
          refine norm_ (a' := ?_) ?_ ?_
          rotate_left
          ·show Act.put _ (some 49) _ = _
           simp only [Act.put, List.setIfInBounds_toArray, List.set_cons_zero, List.set_cons_succ, i64_w, i32_w]
           rfl
          refine pure_s (i := 5) (N := some 44) #[oT,oT,oT,oT,oT,oT,oF,oF,oF,oT,oF,oF,oF] (any_of HT_.out (by kernel_rfl)) (h := ?_)
          refine pure_s (i := 6) (N := some 50) #[oT,oT,oT,oT,oT,oT,oT,oF,oF,oT,oF,oF,oF] (any_of HT_.out (by kernel_rfl)) (h := ?_)
          refine pure_s (i := 7) (N := some 51) #[oT,oT,oT,oT,oT,oT,oT,oT,oF,oT,oF,oF,oF] (any_of HT_.out (by kernel_rfl)) (h := ?_)
          refine pure_s (i := 8) (N := some 52) (bs 13 10) (any_of HT_.out (by kernel_rfl)) (h := ?_)
          exact norm_ (by simp only [putAll, Act.put, List.setIfInBounds_toArray, List.set_cons_zero, List.set_cons_succ]) (hCont (v305, gb309) _ ⟨hHeld, (by (with_reducible repeat (first | apply Kd.R_alloc | apply Kd.R_drewN | apply Kd.R_drew)); exact Kd.R_mono HO306.out (fun _ hk => by first | exact hk.2 | grind)), (by (with_reducible repeat (first | apply Kd.R_alloc | apply Kd.R_drewN | apply Kd.R_drew)); exact Kd.R_mono HO_285001.out (fun _ hk => by first | exact hk.2 | grind)), (bk_ BK273), (bk_ BK284), (bk_ BK309), GW309.out, GE309.out, NB0_309.out, NB309_0.out, NB273_309.out, NB309_273.out, NB284_309.out, NB309_284.out, (by repeat (first | (with_reducible first | exact HI0.out | apply IsS85.alloc | apply IsS85.drewN | apply IsS85.drew | apply IsS85.set_1 | apply IsS85.set_2 | refine IsS85.far ?_ NB0_273.out _ | refine IsS85.far ?_ NB0_284.out _ | refine IsS85.far ?_ NB0_309.out _) | exact HI0.out)), (by repeat (first | (with_reducible first | exact HK.out | apply KeepBut.set_ | apply keep_drewN | apply keep_drew | apply keep_alloc | refine keep_far ?_ GW273.out _ | refine keep_far ?_ GW284.out _ | refine keep_far ?_ GW309.out _) | exact HK.out)), (by repeat (first | (with_reducible first | exact HB.out | apply below_alloc | apply pw_below_drewN | apply below_drew1 | refine below_set ?_ (IsS85.ge HI0.out) | refine below_set ?_ GE273.out | refine below_set ?_ GE284.out | refine below_set ?_ GE309.out) | exact HB.out))⟩)
        rintro ⟨v305, gb309⟩ w63 ⟨hS_, h0_, h1_, h2_, h3_, h4_, h5_, h6_, h7_, h8_, h9_, h10_, h11_, h12_, h13_, h14_, h15_⟩
        have n0_ : Aside0 (Kd.R (Kd.int .i64) 3 w63 w.heap.size (fun k_ => some k_ ≠ (.slice Ao58 x285001_1.length co58 : Value).ownBlock) v305 t304) := ⟨h0_⟩
        have n1_ : Aside0 (Kd.R (Kd.int .i64) 3 w63 w.heap.size (fun k_ => some k_ ≠ (v305 : Value).ownBlock) (.slice Ao58 x285001_1.length co58) x285001_1) := ⟨h1_⟩
        have n2_ : Aside0 (w63.heap[gb273]? = some (.cells #[.int .i64 0, .slice none 0 0] 24 (0, 0))) := ⟨h2_⟩
        have n3_ : Aside0 (w63.heap[gb284]? = some (.cells #[.int .i64 x285000_1, .slice Ao58 x285001_1.length co58] 24 (0, 0))) := ⟨h3_⟩
        have n4_ : Aside0 (w63.heap[gb309]? = some (.cells #[.int .i64 0, .slice none 0 0] 24 (0, 0))) := ⟨h4_⟩
        have n5_ : Aside0 (w.heap.size ≤ gb309) := ⟨h5_⟩
        have n6_ : Aside0 (w0.heap.size ≤ gb309) := ⟨h6_⟩
        have n7_ : Aside0 (g ≠ gb309) := ⟨h7_⟩
        have n8_ : Aside0 (gb309 ≠ g) := ⟨h8_⟩
        have n9_ : Aside0 (gb273 ≠ gb309) := ⟨h9_⟩
        have n10_ : Aside0 (gb309 ≠ gb273) := ⟨h10_⟩
        have n11_ : Aside0 (gb284 ≠ gb309) := ⟨h11_⟩
        have n12_ : Aside0 (gb309 ≠ gb284) := ⟨h12_⟩
        have n13_ : Aside0 (IsS85 w0 w63 g s0_0 t301 t302) := ⟨h13_⟩
        have n14_ : Aside0 (KeepBut w w63 g none) := ⟨h14_⟩
        have n15_ : Aside0 (Below w0.heap.size w0 w63) := ⟨h15_⟩
        clear HO_285001
        clear BK273
        clear BK284
        clear HI0
        clear HK
        clear HB
        clear h0_ h1_ h2_ h3_ h4_ h5_ h6_ h7_ h8_ h9_ h10_ h11_ h12_ h13_ h14_ h15_
        have HO306 := n0_
        have HO_285001 := n1_
        have BK273 := n2_
        have BK284 := n3_
        have BK309 := n4_
        have GW309 := n5_
        have GE309 := n6_
        have NB0_309 := n7_
        have NB309_0 := n8_
        have NB273_309 := n9_
        have NB309_273 := n10_
        have NB284_309 := n11_
        have NB309_284 := n12_
        have HI0 := n13_
        have HK := n14_
        have HB := n15_
        clear n0_ n1_ n2_ n3_ n4_ n5_ n6_ n7_ n8_ n9_ n10_ n11_ n12_ n13_ n14_ n15_
        have hHeld : w63.cell? ⟨gb284, 0, none⟩ = some (.int .i64 x285000_1) ∧ w63.cell? ⟨gb284, 1, none⟩ = some (.slice Ao58 x285001_1.length co58) := hS_
        obtain ⟨Ao65, co65, eo65⟩ := Kd.R_slice HO306.out
        (first | subst eo65 | (injection eo65 with f1_ f2_ f3_; have f4_ := f1_.symm; have f5_ := f3_.symm; clear f1_ f2_ f3_; subst f4_; subst f5_))
        refine norm_ (a' := ?_) ?_ ?_
        rotate_left
        ·simp only [putAll, Act.put, List.setIfInBounds_toArray, List.set_cons_zero, List.set_cons_succ]
         rfl
        refine one_ (i := 10) (N := none) (bs 13 11) rfl rfl (one_of HT_.out (by kernel_rfl)) (by decide) (fun K hK => ?_)
        have hs64 : w63.cell? ⟨gb309, 0, none⟩ = some (.int .i64 0) := (blk_cell BK309.out 0).trans rfl
        have hfs64 := blk_frozen BK309.out 0
        have hns64_0 := NB273_309.out
        have hns64_1 := NB284_309.out
        have hms64_0 := NB309_273.out
        have hms64_1 := NB309_284.out
        have hs66 : w63.cell? ⟨gb309, 1, none⟩ = some (.slice none 0 0) := (blk_cell BK309.out 1).trans rfl
        have hfs66 := blk_frozen BK309.out 1
        have hns66_0 := NB273_309.out
        have hns66_1 := NB284_309.out
        have hms66_0 := NB309_273.out
        have hms66_1 := NB309_284.out
        refine skip_ (w1 := ?_) (by rfl) rfl ?_ ?_
        rotate_left
        ·go_simp
         rfl
        refine hK.out _ _ ⟨((cell_far (p := ⟨gb309, _, none⟩) NB284_309.out _).trans (((cell_far (p := ⟨gb309, _, none⟩) NB284_309.out _).trans (hHeld.1)))), ((cell_far (p := ⟨gb309, _, none⟩) NB284_309.out _).trans (((cell_far (p := ⟨gb309, _, none⟩) NB284_309.out _).trans (hHeld.2))))⟩ (fun hHeld => ?_)
        clear hK K
        refine pure_s (i := 11) (N := some 8) (bs 13 12) (any_of HT_.out (by kernel_rfl)) (h := ?_)
        refine pure_s (i := 12) (N := some 9) (bs 13 13) (any_of HT_.out (by kernel_rfl)) (h := ?_)
        refine done_ (done_of HT_.out (by kernel_rfl)) ?_
        have hnb67 := NB309_273.out
        have hnc67 := NB273_309.out
        have hnb68 := NB309_284.out
        have hnc68 := NB284_309.out
        have hnb69 := NB309_0.out
        have hnc69 := NB0_309.out
        have hcz70_0 : w63.cell? ⟨gb309, 0, none⟩ = some (.int .i64 0) := (blk_cell BK309.out 0).trans rfl
        have hcz70_1 : w63.cell? ⟨gb309, 1, none⟩ = some (.slice none 0 0) := (blk_cell BK309.out 1).trans rfl
        have hfz70_0 := blk_frozen BK309.out 0
        have hfz70_1 := blk_frozen BK309.out 1
        have hnb71 := NB284_273.out
        have hnc71 := NB273_284.out
        have hnb72 := NB284_0.out
        have hnc72 := NB0_284.out
        have hcz73_0 : w63.cell? ⟨gb284, 0, none⟩ = some (.int .i64 x285000_1) := (blk_cell BK284.out 0).trans rfl
        have hcz73_1 : w63.cell? ⟨gb284, 1, none⟩ = some (.slice Ao58 x285001_1.length co58) := (blk_cell BK284.out 1).trans rfl
        have hfz73_0 := blk_frozen BK284.out 0
        have hfz73_1 := blk_frozen BK284.out 1
        try go_wp2
        go_roundg kj16
        case measure => have := HK1.out; have := HJ16.out; omega
        case rel => exact ⟨(wrap64 (x4_1 - 1)), (t301), (t302), (t303), (t304), (.slice Ao65 t304.length co65), (by first | rfl | (simp; done) | (simp [*]; done)), H', ⟨by have := HK1.out; have := HJ16.out; omega⟩, ⟨by (with_reducible repeat (first | apply Kd.R_alloc | apply Kd.R_drewN | apply Kd.R_drew)); exact Kd.R_mono (Kd.R_far (p := ⟨gb284, 1, none⟩) (Kd.R_far (p := ⟨gb284, 0, none⟩) (Kd.R_far (p := ⟨gb309, 1, none⟩) (Kd.R_far (p := ⟨gb309, 0, none⟩) (Kd.R_types (Kd.R_types HO306.out BK309.out (by decide)) BK284.out (by decide)) (fun _ hk => by first | exact hk.1.2 | grind) (.int .i64 t303)) (fun _ hk => by first | exact hk.1.2 | grind) (.slice Ao65 t304.length co65)) (fun _ hk => by first | exact hk.2 | grind) (.int .i64 t303)) (fun _ hk => by first | exact hk.2 | grind) (.slice Ao65 t304.length co65)) (fun _ hk => by first | exact trivial | grind)⟩, ⟨by (with_reducible repeat (first | refine blk_drewN ?_ _ | refine blk_drew ?_ | refine blk_alloc ?_ _)); refine blk_far ?_ NB273_284.out _; (with_reducible repeat (first | refine blk_drewN ?_ _ | refine blk_drew ?_ | refine blk_alloc ?_ _)); refine blk_far ?_ NB273_284.out _; (with_reducible repeat (first | refine blk_drewN ?_ _ | refine blk_drew ?_ | refine blk_alloc ?_ _)); refine blk_far ?_ NB273_309.out _; (with_reducible repeat (first | refine blk_drewN ?_ _ | refine blk_drew ?_ | refine blk_alloc ?_ _)); refine blk_far ?_ NB273_309.out _; exact bk_ BK273⟩, ⟨by (with_reducible repeat (first | refine blk_drewN ?_ _ | refine blk_drew ?_ | refine blk_alloc ?_ _)); refine blk_put (cs := #[.int .i64 t303, .slice Ao58 x285001_1.length co58]) ?_ 1 _ rfl; (with_reducible repeat (first | refine blk_drewN ?_ _ | refine blk_drew ?_ | refine blk_alloc ?_ _)); refine blk_put (cs := #[.int .i64 x285000_1, .slice Ao58 x285001_1.length co58]) ?_ 0 _ rfl; (with_reducible repeat (first | refine blk_drewN ?_ _ | refine blk_drew ?_ | refine blk_alloc ?_ _)); refine blk_far ?_ NB284_309.out _; (with_reducible repeat (first | refine blk_drewN ?_ _ | refine blk_drew ?_ | refine blk_alloc ?_ _)); refine blk_far ?_ NB284_309.out _; exact bk_ BK284⟩, ⟨by repeat (first | (with_reducible first | exact HI0.out | apply IsS85.alloc | apply IsS85.drewN | apply IsS85.drew | apply IsS85.set_1 | apply IsS85.set_2 | refine IsS85.far ?_ NB0_273.out _ | refine IsS85.far ?_ NB0_284.out _ | refine IsS85.far ?_ NB0_309.out _) | exact HI0.out)⟩, ⟨by repeat (first | (with_reducible first | exact HK.out | apply KeepBut.set_ | apply keep_drewN | apply keep_drew | apply keep_alloc | refine keep_far ?_ GW273.out _ | refine keep_far ?_ GW284.out _ | refine keep_far ?_ GW309.out _) | exact HK.out)⟩, ⟨by repeat (first | (with_reducible first | exact HB.out | apply below_alloc | apply pw_below_drewN | apply below_drew1 | refine below_set ?_ (IsS85.ge HI0.out) | refine below_set ?_ GE273.out | refine below_set ?_ GE284.out | refine below_set ?_ GE309.out) | exact HB.out)⟩⟩
       ·rw [if_neg c57] at H
        have c57b0 : (t308 == 0) = false := beq_eq_false_iff_ne.mpr c57
        have c57b1 : (t308 != 0) = true := bne_iff_ne.mpr c57
        have H' := Aside0.mk H
        clear H
        obtain ⟨Ao74, co74, eo74⟩ := Kd.R_slice HO_285001.out
        subst eo74
        try go_wp2
        have n0_ := Aside0.mk (Kd.R_drew HO_285001.out)
        have n1_ := Aside0.mk (blk_drew BK273.out)
        have n2_ := Aside0.mk (blk_drew BK284.out)
        have n3_ := Aside0.mk (IsS85.drew HI0.out)
        have n4_ := Aside0.mk (keep_drew HK.out)
        have n5_ := Aside0.mk (below_drew1 HB.out)
        clear HO_285001
        clear BK273
        clear BK284
        clear HI0
        clear HK
        clear HB
        have HO_285001 := n0_
        have BK273 := n1_
        have BK284 := n2_
        have HI0 := n3_
        have HK := n4_
        have HB := n5_
        clear n0_ n1_ n2_ n3_ n4_ n5_
        refine start_ (n := 13) (S := fun w' => w'.cell? ⟨gb284, 0, none⟩ = some (.int .i64 x285000_1) ∧ w'.cell? ⟨gb284, 1, none⟩ = some (.slice Ao74 x285001_1.length co74)) (ds := []) (bs 13 0) (by kernel_rfl) rfl rfl ⟨(blk_cell BK284.out 0).trans rfl, (blk_cell BK284.out 1).trans rfl⟩ (fun hHeld => ?_); refine with_tabW spec_l01Cur_slab.tab9 spec_l01Cur_slab.bits9 (fun HT_ HW_ => ?_)
        generalize wc.drew = w75 at HO_285001 BK273 BK284 HI0 HK HB hHeld ⊢
        refine pure_s (i := 1) (N := some 46) #[oF,oT,oF,oF,oF,oF,oF,oF,oF,oF,oF,oF,oF] (any_of HT_.out (by kernel_rfl)) (h := ?_)
        refine take_ (i := 0) (N := some 45) (v := ?_) (a' := ?_) (bs 13 2) rfl rfl (take_ofW HT_.out HW_.out (by kernel_rfl)) (fun _ _ _ h => h) (Or.inl ⟨by rfl, ?_⟩) hHeld ?_ ?_
        rotate_left
        ·rintro w' ⟨s0, s1⟩
         go_simp
         with_reducible rfl
        rotate_left
        ·simp only [Act.put, List.setIfInBounds_toArray, List.set_cons_zero, List.set_cons_succ, i64_w, i32_w]
         rfl
        refine join_ (σ := Value × Nat) 3 (bs 13 10) (fun s_ => [(47, .int .i64 t300), (49, .tuple #[.agg #[.int .i64 t303, s_.1], .int .i64 t307, .int .i64 t308]), (7, .pointer (some ⟨s_.2, 0, none⟩)), (48, .int .i64 (wrap64 (1 + t300))), (44, .tuple #[.agg #[.int .i64 t303, s_.1], .int .i64 t307, .int .i64 t308]), (50, .agg #[.int .i64 t303, s_.1]), (51, .int .i64 t307), (52, .int .i64 t308)]) (fun s_ w' => (w'.cell? ⟨gb284, 0, none⟩ = some (.int .i64 x285000_1) ∧ w'.cell? ⟨gb284, 1, none⟩ = some (.slice Ao74 x285001_1.length co74)) ∧ (Kd.R (Kd.int .i64) 3 w' w.heap.size (fun k_ => some k_ ≠ (.slice Ao74 x285001_1.length co74 : Value).ownBlock) s_.1 t304) ∧ (Kd.R (Kd.int .i64) 3 w' w.heap.size (fun k_ => some k_ ≠ (s_.1 : Value).ownBlock) (.slice Ao74 x285001_1.length co74) x285001_1) ∧ (w'.heap[gb273]? = some (.cells #[.int .i64 0, .slice none 0 0] 24 (0, 0))) ∧ (w'.heap[gb284]? = some (.cells #[.int .i64 x285000_1, .slice Ao74 x285001_1.length co74] 24 (0, 0))) ∧ (w'.heap[s_.2]? = some (.cells #[.int .i64 0, .slice none 0 0] 24 (0, 0))) ∧ (w.heap.size ≤ s_.2) ∧ (w0.heap.size ≤ s_.2) ∧ (g ≠ s_.2) ∧ (s_.2 ≠ g) ∧ (gb273 ≠ s_.2) ∧ (s_.2 ≠ gb273) ∧ (gb284 ≠ s_.2) ∧ (s_.2 ≠ gb284) ∧ (IsS85 w0 w' g s0_0 t301 t302) ∧ (KeepBut w w' g none) ∧ (Below w0.heap.size w0 w')) ?_ ?_
        rotate_left
        ·intro hCont
         refine two_ (i := 2) (j := 9) (Ni := some 47) (Nj := some 7) (bs 13 3) #[oT,oT,oF,oF,oF,oF,oF,oF,oF,oT,oF,oF,oF] rfl rfl rfl rfl (two_of HT_.out (by kernel_rfl)) (by decide) (by decide) (fun K hK => ?_) (fun K hK => ?_)
         ·skip
          refine goes_ Try.func77 (by kernel_rfl) rfl #[.pointer (some ⟨g, 0, none⟩), .int .i64 5] (by rfl) rfl rfl mt_ ?_
          with_reducible refine (spec_l01Cur_pick.calls g s0_0 x1001_16 x1002_16 5 t300 t301 t302 w0 _ ?side1 ?side2 A55.out).mono ?_
          (case side1 => repeat (first | (with_reducible first | exact HI0.out | apply IsS85.alloc | apply IsS85.drewN | apply IsS85.drew | apply IsS85.set_1 | apply IsS85.set_2 | refine IsS85.far ?_ NB0_273.out _ | refine IsS85.far ?_ NB0_284.out _) | exact HI0.out))
          (case side2 => repeat (first | (with_reducible first | exact HB.out | apply below_alloc | apply pw_below_drewN | apply below_drew1 | refine below_set ?_ (IsS85.ge HI0.out) | refine below_set ?_ GE273.out | refine below_set ?_ GE284.out) | exact HB.out))
          rintro e w76 ⟨rfl, hi, hb, hk⟩
          refine ⟨_, rfl, ?_⟩
          have n0_ := Aside0.mk (Kd.R_mono (Kd.R_keep (IsS85.apart (show IsS85 w0 _ g s0_0 x1001_16 x1002_16 from by repeat (first | (with_reducible first | exact HI0.out | apply IsS85.alloc | apply IsS85.drewN | apply IsS85.drew | apply IsS85.set_1 | apply IsS85.set_2 | refine IsS85.far ?_ NB0_273.out _ | refine IsS85.far ?_ NB0_284.out _) | exact HI0.out)) (kr_ HO_285001) (by decide)) hk (fun _ h => h.2)) (fun _ h => h.1))
          have n1_ := Aside0.mk (KeepBut.blk hk (g' := gb273) (o := .cells #[.int .i64 0, .slice none 0 0] 24 (0, 0)) (bk_ BK273) NB273_0.out (by simp))
          have n2_ := Aside0.mk (KeepBut.blk hk (g' := gb284) (o := .cells #[.int .i64 x285000_1, .slice Ao74 x285001_1.length co74] 24 (0, 0)) (bk_ BK284) NB284_0.out (by simp))
          have n3_ := Aside0.mk (KeepBut.trans (by repeat (first | (with_reducible first | exact HK.out | apply KeepBut.set_ | apply keep_drewN | apply keep_drew | apply keep_alloc | refine keep_far ?_ GW273.out _ | refine keep_far ?_ GW284.out _) | exact HK.out)) hk (.inl rfl))
          have n4_ := Aside0.mk (hb)
          have n5_ := Aside0.mk (hi)
          clear HO_285001
          clear BK273
          clear BK284
          clear HK
          clear HB
          clear HI0
          have HO_285001 := n0_
          have BK273 := n1_
          have BK284 := n2_
          have HK := n3_
          have HB := n4_
          have HI0 := n5_
          clear n0_ n1_ n2_ n3_ n4_ n5_
          (try clear hb)
          (try clear hb2)
          (try clear hk)
          (try clear hi)
          refine hK.out _ _ ⟨(blk_cell BK284.out 0).trans rfl, (blk_cell BK284.out 1).trans rfl⟩ (fun hHeld => ?_)
          clear hK K
          refine norm_ (a' := ?_) ?_ ?_
          rotate_left
          ·show Act.put _ (some 47) _ = _
           simp only [Act.put, List.setIfInBounds_toArray, List.set_cons_zero, List.set_cons_succ, i64_w, i32_w]
           rfl
          refine pure_s (i := 3) (N := some 48) (bs 13 4) (any_of HT_.out (by kernel_rfl)) (h := ?_)
          refine two_ (i := 4) (j := 9) (Ni := some 49) (Nj := some 7) (bs 13 5) #[oT,oT,oT,oT,oF,oF,oF,oF,oF,oT,oF,oF,oF] rfl rfl rfl rfl (two_of HT_.out (by kernel_rfl)) (by decide) (by decide) (fun K hK => ?_) (fun K hK => ?_)
          ·skip
           refine goes_ Try.func44 (by kernel_rfl) rfl #[.agg #[.int .i64 x285000_1, .slice Ao74 x285001_1.length co74], .int .i64 (wrap64 (1 + t300))] (by rfl) rfl rfl mt_ ?_
           with_reducible refine (spec_SlabTake.calls kj16 x285000_1 _ _ x285001_1 (wrap64 (1 + t300)) t303 t304 t307 t308 _ ?side1 ?side2 A56.out).mono ?_
           (case side1 => repeat (first | exact (Kd.R_reads' HO_285001.out).2.2 | (with_reducible refine Kd.C_alloc ?_ _) | (with_reducible refine Kd.C_drewN ?_ _) | (with_reducible refine Kd.C_drew ?_)))
           (case side2 => exact (Kd.R_reads' HO_285001.out).2.1)
           rintro e w77 ⟨v305, rfl, ho0, hb⟩
           refine ⟨_, rfl, ?_⟩
           have n0_ := Aside0.mk (Kd.R_elder' (kr_ HO_285001) (Kd.R_base ho0) hb)
           have n1_ := Aside0.mk (Kd.R_lower (Kd.R_new' ho0 (Kd.R_lt (kr_ HO_285001))) (keep_size (w := w) (g := g) (row := none) (by repeat (first | (with_reducible first | exact HK.out | apply KeepBut.set_ | apply keep_drewN | apply keep_drew | apply keep_alloc | refine keep_far ?_ GW273.out _ | refine keep_far ?_ GW284.out _) | exact HK.out))))
           have n2_ := Aside0.mk (blk_below (g := gb273) (o := .cells #[.int .i64 0, .slice none 0 0] 24 (0, 0)) (bk_ BK273) hb)
           have n3_ := Aside0.mk (blk_below (g := gb284) (o := .cells #[.int .i64 x285000_1, .slice Ao74 x285001_1.length co74] 24 (0, 0)) (bk_ BK284) hb)
           have n4_ := Aside0.mk (IsS85.below (by repeat (first | (with_reducible first | exact HI0.out | apply IsS85.alloc | apply IsS85.drewN | apply IsS85.drew | apply IsS85.set_1 | apply IsS85.set_2 | refine IsS85.far ?_ NB0_273.out _ | refine IsS85.far ?_ NB0_284.out _) | exact HI0.out)) hb)
           have n5_ := Aside0.mk (KeepBut.trans (by repeat (first | (with_reducible first | exact HK.out | apply KeepBut.set_ | apply keep_drewN | apply keep_drew | apply keep_alloc | refine keep_far ?_ GW273.out _ | refine keep_far ?_ GW284.out _) | exact HK.out)) (KeepBut.of_below hb g none) (.inl rfl))
           have n6_ := Aside0.mk (below_step (by repeat (first | (with_reducible first | exact HB.out | apply below_alloc | apply pw_below_drewN | apply below_drew1 | refine below_set ?_ (IsS85.ge HI0.out) | refine below_set ?_ GE273.out | refine below_set ?_ GE284.out) | exact HB.out)) hb)
           clear HO_285001
           clear BK273
           clear BK284
           clear HI0
           clear HK
           clear HB
           have HO_285001 := n0_
           have HO306 := n1_
           have BK273 := n2_
           have BK284 := n3_
           have HI0 := n4_
           have HK := n5_
           have HB := n6_
           clear n0_ n1_ n2_ n3_ n4_ n5_ n6_
           (try clear hb)
           (try clear hb2)
           (try clear hk)
           (try clear hi)
           (try clear ho0)
           refine hK.out _ _ ⟨(blk_cell BK284.out 0).trans rfl, (blk_cell BK284.out 1).trans rfl⟩ (fun hHeld => ?_)
           clear hK K
           refine norm_ (a' := ?_) ?_ ?_
           rotate_left
           ·show Act.put _ (some 49) _ = _
            simp only [Act.put, List.setIfInBounds_toArray, List.set_cons_zero, List.set_cons_succ, i64_w, i32_w]
            rfl
           refine pure_s (i := 5) (N := some 44) (bs 13 6) (any_of HT_.out (by kernel_rfl)) (h := ?_)
           refine pure_s (i := 6) (N := some 50) (bs 13 7) (any_of HT_.out (by kernel_rfl)) (h := ?_)
           refine pure_s (i := 7) (N := some 51) (bs 13 8) (any_of HT_.out (by kernel_rfl)) (h := ?_)
           refine pure_s (i := 8) (N := some 52) (bs 13 9) (any_of HT_.out (by kernel_rfl)) (h := ?_)
           refine one_ (i := 9) (N := some 7) (bs 13 10) rfl rfl (one_of HT_.out (by kernel_rfl)) (by decide) (fun K hK => ?_)
           refine box_step ?hg (N := 7) ?hd (cs := #[.int .i64 0, .slice none 0 0]) (t := 24) ?hr ?_; (case hd => rfl); (case hg => rfl); (case hr => first | (go_simp; done) | (go_simp; rfl))
           intro gb309 hg w78 hbox hb
           have n0_ := Aside0.mk (Kd.R_below (kr_ HO_285001) hb)
           have n1_ := Aside0.mk (Kd.R_below (kr_ HO306) hb)
           have n2_ := Aside0.mk (blk_below (g := gb273) (o := .cells #[.int .i64 0, .slice none 0 0] 24 (0, 0)) (bk_ BK273) hb)
           have n3_ := Aside0.mk (blk_below (g := gb284) (o := .cells #[.int .i64 x285000_1, .slice Ao74 x285001_1.length co74] 24 (0, 0)) (bk_ BK284) hb)
           have n4_ := Aside0.mk (IsS85.below (by repeat (first | (with_reducible first | exact HI0.out | apply IsS85.alloc | apply IsS85.drewN | apply IsS85.drew | apply IsS85.set_1 | apply IsS85.set_2 | refine IsS85.far ?_ NB0_273.out _ | refine IsS85.far ?_ NB0_284.out _) | exact HI0.out)) hb)
           have n5_ := Aside0.mk (KeepBut.trans (by repeat (first | (with_reducible first | exact HK.out | apply KeepBut.set_ | apply keep_drewN | apply keep_drew | apply keep_alloc | refine keep_far ?_ GW273.out _ | refine keep_far ?_ GW284.out _) | exact HK.out)) (KeepBut.of_below hb g none) (.inl rfl))
           have n6_ := Aside0.mk (below_step (by repeat (first | (with_reducible first | exact HB.out | apply below_alloc | apply pw_below_drewN | apply below_drew1 | refine below_set ?_ (IsS85.ge HI0.out) | refine below_set ?_ GE273.out | refine below_set ?_ GE284.out) | exact HB.out)) hb)
           have n7_ := Aside0.mk (hbox)
           have n8_ := Aside0.mk ((by rw [hg]; exact (keep_size (w := w) (g := g) (row := none) (by repeat (first | (with_reducible first | exact HK.out | apply KeepBut.set_ | apply keep_drewN | apply keep_drew | apply keep_alloc | refine keep_far ?_ GW273.out _ | refine keep_far ?_ GW284.out _) | exact HK.out))) : w.heap.size ≤ gb309))
           have n9_ := Aside0.mk ((Nat.le_trans HW0.out (by rw [hg]; exact (keep_size (w := w) (g := g) (row := none) (by repeat (first | (with_reducible first | exact HK.out | apply KeepBut.set_ | apply keep_drewN | apply keep_drew | apply keep_alloc | refine keep_far ?_ GW273.out _ | refine keep_far ?_ GW284.out _) | exact HK.out))) : w.heap.size ≤ gb309) : w0.heap.size ≤ gb309))
           have n10_ := Aside0.mk ((by rw [hg]; exact Nat.ne_of_lt (blk_lt (g := gb273) (o := .cells #[.int .i64 0, .slice none 0 0] 24 (0, 0)) (bk_ BK273)) : gb273 ≠ gb309))
           have n11_ := Aside0.mk ((by rw [hg]; exact Nat.ne_of_gt (blk_lt (g := gb273) (o := .cells #[.int .i64 0, .slice none 0 0] 24 (0, 0)) (bk_ BK273)) : gb309 ≠ gb273))
           have n12_ := Aside0.mk ((by rw [hg]; exact Nat.ne_of_lt (blk_lt (g := gb284) (o := .cells #[.int .i64 x285000_1, .slice Ao74 x285001_1.length co74] 24 (0, 0)) (bk_ BK284)) : gb284 ≠ gb309))
           have n13_ := Aside0.mk ((by rw [hg]; exact Nat.ne_of_gt (blk_lt (g := gb284) (o := .cells #[.int .i64 x285000_1, .slice Ao74 x285001_1.length co74] 24 (0, 0)) (bk_ BK284)) : gb309 ≠ gb284))
           have n14_ := Aside0.mk ((by rw [hg]; exact Nat.ne_of_lt (IsS85.lt (show IsS85 w0 _ g s0_0 t301 t302 from by repeat (first | (with_reducible first | exact HI0.out | apply IsS85.alloc | apply IsS85.drewN | apply IsS85.drew | apply IsS85.set_1 | apply IsS85.set_2 | refine IsS85.far ?_ NB0_273.out _ | refine IsS85.far ?_ NB0_284.out _) | exact HI0.out))) : g ≠ gb309))
           have n15_ := Aside0.mk ((by rw [hg]; exact Nat.ne_of_gt (IsS85.lt (show IsS85 w0 _ g s0_0 t301 t302 from by repeat (first | (with_reducible first | exact HI0.out | apply IsS85.alloc | apply IsS85.drewN | apply IsS85.drew | apply IsS85.set_1 | apply IsS85.set_2 | refine IsS85.far ?_ NB0_273.out _ | refine IsS85.far ?_ NB0_284.out _) | exact HI0.out))) : gb309 ≠ g))
           clear HO_285001
           clear HO306
           clear BK273
           clear BK284
           clear HI0
           clear HK
           clear HB
           have HO_285001 := n0_
           have HO306 := n1_
           have BK273 := n2_
           have BK284 := n3_
           have HI0 := n4_
           have HK := n5_
           have HB := n6_
           have BK309 := n7_
           have GW309 := n8_
           have GE309 := n9_
           have NB273_309 := n10_
           have NB309_273 := n11_
           have NB284_309 := n12_
           have NB309_284 := n13_
           have NB0_309 := n14_
           have NB309_0 := n15_
           clear n0_ n1_ n2_ n3_ n4_ n5_ n6_ n7_ n8_ n9_ n10_ n11_ n12_ n13_ n14_ n15_
           clear hb hbox hg
           refine hK.out _ _ ⟨(blk_cell BK284.out 0).trans rfl, (blk_cell BK284.out 1).trans rfl⟩ (fun hHeld => ?_)
           clear hK K
           refine norm_ (a' := ?_) ?_ ?_
           rotate_left
           ·show Act.put _ (some 7) _ = _
            simp only [Act.put, List.setIfInBounds_toArray, List.set_cons_zero, List.set_cons_succ, i64_w, i32_w]
            rfl
           exact norm_ (by simp only [putAll, Act.put, List.setIfInBounds_toArray, List.set_cons_zero, List.set_cons_succ]) (hCont (v305, gb309) _ ⟨hHeld, (by (with_reducible repeat (first | apply Kd.R_alloc | apply Kd.R_drewN | apply Kd.R_drew)); exact Kd.R_mono HO306.out (fun _ hk => by first | exact hk.2 | grind)), (by (with_reducible repeat (first | apply Kd.R_alloc | apply Kd.R_drewN | apply Kd.R_drew)); exact Kd.R_mono HO_285001.out (fun _ hk => by first | exact hk.2 | grind)), (bk_ BK273), (bk_ BK284), (bk_ BK309), GW309.out, GE309.out, NB0_309.out, NB309_0.out, NB273_309.out, NB309_273.out, NB284_309.out, NB309_284.out, (by repeat (first | (with_reducible first | exact HI0.out | apply IsS85.alloc | apply IsS85.drewN | apply IsS85.drew | apply IsS85.set_1 | apply IsS85.set_2 | refine IsS85.far ?_ NB0_273.out _ | refine IsS85.far ?_ NB0_284.out _ | refine IsS85.far ?_ NB0_309.out _) | exact HI0.out)), (by repeat (first | (with_reducible first | exact HK.out | apply KeepBut.set_ | apply keep_drewN | apply keep_drew | apply keep_alloc | refine keep_far ?_ GW273.out _ | refine keep_far ?_ GW284.out _ | refine keep_far ?_ GW309.out _) | exact HK.out)), (by repeat (first | (with_reducible first | exact HB.out | apply below_alloc | apply pw_below_drewN | apply below_drew1 | refine below_set ?_ (IsS85.ge HI0.out) | refine below_set ?_ GE273.out | refine below_set ?_ GE284.out | refine below_set ?_ GE309.out) | exact HB.out))⟩)
          ·skip
           refine box_step ?hg (N := 7) ?hd (cs := #[.int .i64 0, .slice none 0 0]) (t := 24) ?hr ?_; (case hd => rfl); (case hg => rfl); (case hr => first | (go_simp; done) | (go_simp; rfl))
           intro gb309 hg w77 hbox hb
           have n0_ := Aside0.mk (Kd.R_below (kr_ HO_285001) hb)
           have n1_ := Aside0.mk (blk_below (g := gb273) (o := .cells #[.int .i64 0, .slice none 0 0] 24 (0, 0)) (bk_ BK273) hb)
           have n2_ := Aside0.mk (blk_below (g := gb284) (o := .cells #[.int .i64 x285000_1, .slice Ao74 x285001_1.length co74] 24 (0, 0)) (bk_ BK284) hb)
           have n3_ := Aside0.mk (IsS85.below (by repeat (first | (with_reducible first | exact HI0.out | apply IsS85.alloc | apply IsS85.drewN | apply IsS85.drew | apply IsS85.set_1 | apply IsS85.set_2 | refine IsS85.far ?_ NB0_273.out _ | refine IsS85.far ?_ NB0_284.out _) | exact HI0.out)) hb)
           have n4_ := Aside0.mk (KeepBut.trans (by repeat (first | (with_reducible first | exact HK.out | apply KeepBut.set_ | apply keep_drewN | apply keep_drew | apply keep_alloc | refine keep_far ?_ GW273.out _ | refine keep_far ?_ GW284.out _) | exact HK.out)) (KeepBut.of_below hb g none) (.inl rfl))
           have n5_ := Aside0.mk (below_step (by repeat (first | (with_reducible first | exact HB.out | apply below_alloc | apply pw_below_drewN | apply below_drew1 | refine below_set ?_ (IsS85.ge HI0.out) | refine below_set ?_ GE273.out | refine below_set ?_ GE284.out) | exact HB.out)) hb)
           have n6_ := Aside0.mk (hbox)
           have n7_ := Aside0.mk ((by rw [hg]; exact (keep_size (w := w) (g := g) (row := none) (by repeat (first | (with_reducible first | exact HK.out | apply KeepBut.set_ | apply keep_drewN | apply keep_drew | apply keep_alloc | refine keep_far ?_ GW273.out _ | refine keep_far ?_ GW284.out _) | exact HK.out))) : w.heap.size ≤ gb309))
           have n8_ := Aside0.mk ((Nat.le_trans HW0.out (by rw [hg]; exact (keep_size (w := w) (g := g) (row := none) (by repeat (first | (with_reducible first | exact HK.out | apply KeepBut.set_ | apply keep_drewN | apply keep_drew | apply keep_alloc | refine keep_far ?_ GW273.out _ | refine keep_far ?_ GW284.out _) | exact HK.out))) : w.heap.size ≤ gb309) : w0.heap.size ≤ gb309))
           have n9_ := Aside0.mk ((by rw [hg]; exact Nat.ne_of_lt (blk_lt (g := gb273) (o := .cells #[.int .i64 0, .slice none 0 0] 24 (0, 0)) (bk_ BK273)) : gb273 ≠ gb309))
           have n10_ := Aside0.mk ((by rw [hg]; exact Nat.ne_of_gt (blk_lt (g := gb273) (o := .cells #[.int .i64 0, .slice none 0 0] 24 (0, 0)) (bk_ BK273)) : gb309 ≠ gb273))
           have n11_ := Aside0.mk ((by rw [hg]; exact Nat.ne_of_lt (blk_lt (g := gb284) (o := .cells #[.int .i64 x285000_1, .slice Ao74 x285001_1.length co74] 24 (0, 0)) (bk_ BK284)) : gb284 ≠ gb309))
           have n12_ := Aside0.mk ((by rw [hg]; exact Nat.ne_of_gt (blk_lt (g := gb284) (o := .cells #[.int .i64 x285000_1, .slice Ao74 x285001_1.length co74] 24 (0, 0)) (bk_ BK284)) : gb309 ≠ gb284))
           have n13_ := Aside0.mk ((by rw [hg]; exact Nat.ne_of_lt (IsS85.lt (show IsS85 w0 _ g s0_0 t301 t302 from by repeat (first | (with_reducible first | exact HI0.out | apply IsS85.alloc | apply IsS85.drewN | apply IsS85.drew | apply IsS85.set_1 | apply IsS85.set_2 | refine IsS85.far ?_ NB0_273.out _ | refine IsS85.far ?_ NB0_284.out _) | exact HI0.out))) : g ≠ gb309))
           have n14_ := Aside0.mk ((by rw [hg]; exact Nat.ne_of_gt (IsS85.lt (show IsS85 w0 _ g s0_0 t301 t302 from by repeat (first | (with_reducible first | exact HI0.out | apply IsS85.alloc | apply IsS85.drewN | apply IsS85.drew | apply IsS85.set_1 | apply IsS85.set_2 | refine IsS85.far ?_ NB0_273.out _ | refine IsS85.far ?_ NB0_284.out _) | exact HI0.out))) : gb309 ≠ g))
           clear HO_285001
           clear BK273
           clear BK284
           clear HI0
           clear HK
           clear HB
           have HO_285001 := n0_
           have BK273 := n1_
           have BK284 := n2_
           have HI0 := n3_
           have HK := n4_
           have HB := n5_
           have BK309 := n6_
           have GW309 := n7_
           have GE309 := n8_
           have NB273_309 := n9_
           have NB309_273 := n10_
           have NB284_309 := n11_
           have NB309_284 := n12_
           have NB0_309 := n13_
           have NB309_0 := n14_
           clear n0_ n1_ n2_ n3_ n4_ n5_ n6_ n7_ n8_ n9_ n10_ n11_ n12_ n13_ n14_
           clear hb hbox hg
           refine hK.out _ _ ⟨(blk_cell BK284.out 0).trans rfl, (blk_cell BK284.out 1).trans rfl⟩ (fun hHeld => ?_)
           clear hK K
           refine norm_ (a' := ?_) ?_ ?_
           rotate_left
           ·show Act.put _ (some 7) _ = _
            simp only [Act.put, List.setIfInBounds_toArray, List.set_cons_zero, List.set_cons_succ, i64_w, i32_w]
            rfl
           refine one_ (i := 4) (N := some 49) #[oT,oT,oT,oT,oT,oF,oF,oF,oF,oT,oF,oF,oF] rfl rfl (one_of HT_.out (by kernel_rfl)) (by decide) (fun K hK => ?_)
           refine goes_ Try.func44 (by kernel_rfl) rfl #[.agg #[.int .i64 x285000_1, .slice Ao74 x285001_1.length co74], .int .i64 (wrap64 (1 + t300))] (by rfl) rfl rfl mt_ ?_
           with_reducible refine (spec_SlabTake.calls kj16 x285000_1 _ _ x285001_1 (wrap64 (1 + t300)) t303 t304 t307 t308 _ ?side1 ?side2 A56.out).mono ?_
           (case side1 => repeat (first | exact (Kd.R_reads' HO_285001.out).2.2 | (with_reducible refine Kd.C_alloc ?_ _) | (with_reducible refine Kd.C_drewN ?_ _) | (with_reducible refine Kd.C_drew ?_)))
           (case side2 => exact (Kd.R_reads' HO_285001.out).2.1)
           rintro e w78 ⟨v305, rfl, ho0, hb⟩
           refine ⟨_, rfl, ?_⟩
           have n0_ := Aside0.mk (Kd.R_elder' (kr_ HO_285001) (Kd.R_base ho0) hb)
           have n1_ := Aside0.mk (Kd.R_lower (Kd.R_new' ho0 (Kd.R_lt (kr_ HO_285001))) (keep_size (w := w) (g := g) (row := none) (by repeat (first | (with_reducible first | exact HK.out | apply KeepBut.set_ | apply keep_drewN | apply keep_drew | apply keep_alloc | refine keep_far ?_ GW273.out _ | refine keep_far ?_ GW284.out _ | refine keep_far ?_ GW309.out _) | exact HK.out))))
           have n2_ := Aside0.mk (blk_below (g := gb273) (o := .cells #[.int .i64 0, .slice none 0 0] 24 (0, 0)) (bk_ BK273) hb)
           have n3_ := Aside0.mk (blk_below (g := gb284) (o := .cells #[.int .i64 x285000_1, .slice Ao74 x285001_1.length co74] 24 (0, 0)) (bk_ BK284) hb)
           have n4_ := Aside0.mk (IsS85.below (by repeat (first | (with_reducible first | exact HI0.out | apply IsS85.alloc | apply IsS85.drewN | apply IsS85.drew | apply IsS85.set_1 | apply IsS85.set_2 | refine IsS85.far ?_ NB0_273.out _ | refine IsS85.far ?_ NB0_284.out _ | refine IsS85.far ?_ NB0_309.out _) | exact HI0.out)) hb)
           have n5_ := Aside0.mk (blk_below (g := gb309) (o := .cells #[.int .i64 0, .slice none 0 0] 24 (0, 0)) (bk_ BK309) hb)
           have n6_ := Aside0.mk (KeepBut.trans (by repeat (first | (with_reducible first | exact HK.out | apply KeepBut.set_ | apply keep_drewN | apply keep_drew | apply keep_alloc | refine keep_far ?_ GW273.out _ | refine keep_far ?_ GW284.out _ | refine keep_far ?_ GW309.out _) | exact HK.out)) (KeepBut.of_below hb g none) (.inl rfl))
           have n7_ := Aside0.mk (below_step (by repeat (first | (with_reducible first | exact HB.out | apply below_alloc | apply pw_below_drewN | apply below_drew1 | refine below_set ?_ (IsS85.ge HI0.out) | refine below_set ?_ GE273.out | refine below_set ?_ GE284.out | refine below_set ?_ GE309.out) | exact HB.out)) hb)
           clear HO_285001
           clear BK273
           clear BK284
           clear HI0
           clear BK309
           clear HK
           clear HB
           have HO_285001 := n0_
           have HO306 := n1_
           have BK273 := n2_
           have BK284 := n3_
           have HI0 := n4_
           have BK309 := n5_
           have HK := n6_
           have HB := n7_
           clear n0_ n1_ n2_ n3_ n4_ n5_ n6_ n7_
           (try clear hb)
           (try clear hb2)
           (try clear hk)
           (try clear hi)
           (try clear ho0)
           refine hK.out _ _ ⟨(blk_cell BK284.out 0).trans rfl, (blk_cell BK284.out 1).trans rfl⟩ (fun hHeld => ?_)
           clear hK K
           refine norm_ (a' := ?_) ?_ ?_
           rotate_left
           ·show Act.put _ (some 49) _ = _
            simp only [Act.put, List.setIfInBounds_toArray, List.set_cons_zero, List.set_cons_succ, i64_w, i32_w]
            rfl
           refine pure_s (i := 5) (N := some 44) #[oT,oT,oT,oT,oT,oT,oF,oF,oF,oT,oF,oF,oF] (any_of HT_.out (by kernel_rfl)) (h := ?_)
           refine pure_s (i := 6) (N := some 50) #[oT,oT,oT,oT,oT,oT,oT,oF,oF,oT,oF,oF,oF] (any_of HT_.out (by kernel_rfl)) (h := ?_)
           refine pure_s (i := 7) (N := some 51) #[oT,oT,oT,oT,oT,oT,oT,oT,oF,oT,oF,oF,oF] (any_of HT_.out (by kernel_rfl)) (h := ?_)
           refine pure_s (i := 8) (N := some 52) (bs 13 10) (any_of HT_.out (by kernel_rfl)) (h := ?_)
           exact norm_ (by simp only [putAll, Act.put, List.setIfInBounds_toArray, List.set_cons_zero, List.set_cons_succ]) (hCont (v305, gb309) _ ⟨hHeld, (by (with_reducible repeat (first | apply Kd.R_alloc | apply Kd.R_drewN | apply Kd.R_drew)); exact Kd.R_mono HO306.out (fun _ hk => by first | exact hk.2 | grind)), (by (with_reducible repeat (first | apply Kd.R_alloc | apply Kd.R_drewN | apply Kd.R_drew)); exact Kd.R_mono HO_285001.out (fun _ hk => by first | exact hk.2 | grind)), (bk_ BK273), (bk_ BK284), (bk_ BK309), GW309.out, GE309.out, NB0_309.out, NB309_0.out, NB273_309.out, NB309_273.out, NB284_309.out, NB309_284.out, (by repeat (first | (with_reducible first | exact HI0.out | apply IsS85.alloc | apply IsS85.drewN | apply IsS85.drew | apply IsS85.set_1 | apply IsS85.set_2 | refine IsS85.far ?_ NB0_273.out _ | refine IsS85.far ?_ NB0_284.out _ | refine IsS85.far ?_ NB0_309.out _) | exact HI0.out)), (by repeat (first | (with_reducible first | exact HK.out | apply KeepBut.set_ | apply keep_drewN | apply keep_drew | apply keep_alloc | refine keep_far ?_ GW273.out _ | refine keep_far ?_ GW284.out _ | refine keep_far ?_ GW309.out _) | exact HK.out)), (by repeat (first | (with_reducible first | exact HB.out | apply below_alloc | apply pw_below_drewN | apply below_drew1 | refine below_set ?_ (IsS85.ge HI0.out) | refine below_set ?_ GE273.out | refine below_set ?_ GE284.out | refine below_set ?_ GE309.out) | exact HB.out))⟩)
         ·skip
          refine box_step ?hg (N := 7) ?hd (cs := #[.int .i64 0, .slice none 0 0]) (t := 24) ?hr ?_; (case hd => rfl); (case hg => rfl); (case hr => first | (go_simp; done) | (go_simp; rfl))
          intro gb309 hg w76 hbox hb
          have n0_ := Aside0.mk (Kd.R_below (kr_ HO_285001) hb)
          have n1_ := Aside0.mk (blk_below (g := gb273) (o := .cells #[.int .i64 0, .slice none 0 0] 24 (0, 0)) (bk_ BK273) hb)
          have n2_ := Aside0.mk (blk_below (g := gb284) (o := .cells #[.int .i64 x285000_1, .slice Ao74 x285001_1.length co74] 24 (0, 0)) (bk_ BK284) hb)
          have n3_ := Aside0.mk (IsS85.below (by repeat (first | (with_reducible first | exact HI0.out | apply IsS85.alloc | apply IsS85.drewN | apply IsS85.drew | apply IsS85.set_1 | apply IsS85.set_2 | refine IsS85.far ?_ NB0_273.out _ | refine IsS85.far ?_ NB0_284.out _) | exact HI0.out)) hb)
          have n4_ := Aside0.mk (KeepBut.trans (by repeat (first | (with_reducible first | exact HK.out | apply KeepBut.set_ | apply keep_drewN | apply keep_drew | apply keep_alloc | refine keep_far ?_ GW273.out _ | refine keep_far ?_ GW284.out _) | exact HK.out)) (KeepBut.of_below hb g none) (.inl rfl))
          have n5_ := Aside0.mk (below_step (by repeat (first | (with_reducible first | exact HB.out | apply below_alloc | apply pw_below_drewN | apply below_drew1 | refine below_set ?_ (IsS85.ge HI0.out) | refine below_set ?_ GE273.out | refine below_set ?_ GE284.out) | exact HB.out)) hb)
          have n6_ := Aside0.mk (hbox)
          have n7_ := Aside0.mk ((by rw [hg]; exact (keep_size (w := w) (g := g) (row := none) (by repeat (first | (with_reducible first | exact HK.out | apply KeepBut.set_ | apply keep_drewN | apply keep_drew | apply keep_alloc | refine keep_far ?_ GW273.out _ | refine keep_far ?_ GW284.out _) | exact HK.out))) : w.heap.size ≤ gb309))
          have n8_ := Aside0.mk ((Nat.le_trans HW0.out (by rw [hg]; exact (keep_size (w := w) (g := g) (row := none) (by repeat (first | (with_reducible first | exact HK.out | apply KeepBut.set_ | apply keep_drewN | apply keep_drew | apply keep_alloc | refine keep_far ?_ GW273.out _ | refine keep_far ?_ GW284.out _) | exact HK.out))) : w.heap.size ≤ gb309) : w0.heap.size ≤ gb309))
          have n9_ := Aside0.mk ((by rw [hg]; exact Nat.ne_of_lt (blk_lt (g := gb273) (o := .cells #[.int .i64 0, .slice none 0 0] 24 (0, 0)) (bk_ BK273)) : gb273 ≠ gb309))
          have n10_ := Aside0.mk ((by rw [hg]; exact Nat.ne_of_gt (blk_lt (g := gb273) (o := .cells #[.int .i64 0, .slice none 0 0] 24 (0, 0)) (bk_ BK273)) : gb309 ≠ gb273))
          have n11_ := Aside0.mk ((by rw [hg]; exact Nat.ne_of_lt (blk_lt (g := gb284) (o := .cells #[.int .i64 x285000_1, .slice Ao74 x285001_1.length co74] 24 (0, 0)) (bk_ BK284)) : gb284 ≠ gb309))
          have n12_ := Aside0.mk ((by rw [hg]; exact Nat.ne_of_gt (blk_lt (g := gb284) (o := .cells #[.int .i64 x285000_1, .slice Ao74 x285001_1.length co74] 24 (0, 0)) (bk_ BK284)) : gb309 ≠ gb284))
          have n13_ := Aside0.mk ((by rw [hg]; exact Nat.ne_of_lt (IsS85.lt (show IsS85 w0 _ g s0_0 x1001_16 x1002_16 from by repeat (first | (with_reducible first | exact HI0.out | apply IsS85.alloc | apply IsS85.drewN | apply IsS85.drew | apply IsS85.set_1 | apply IsS85.set_2 | refine IsS85.far ?_ NB0_273.out _ | refine IsS85.far ?_ NB0_284.out _) | exact HI0.out))) : g ≠ gb309))
          have n14_ := Aside0.mk ((by rw [hg]; exact Nat.ne_of_gt (IsS85.lt (show IsS85 w0 _ g s0_0 x1001_16 x1002_16 from by repeat (first | (with_reducible first | exact HI0.out | apply IsS85.alloc | apply IsS85.drewN | apply IsS85.drew | apply IsS85.set_1 | apply IsS85.set_2 | refine IsS85.far ?_ NB0_273.out _ | refine IsS85.far ?_ NB0_284.out _) | exact HI0.out))) : gb309 ≠ g))
          clear HO_285001
          clear BK273
          clear BK284
          clear HI0
          clear HK
          clear HB
          have HO_285001 := n0_
          have BK273 := n1_
          have BK284 := n2_
          have HI0 := n3_
          have HK := n4_
          have HB := n5_
          have BK309 := n6_
          have GW309 := n7_
          have GE309 := n8_
          have NB273_309 := n9_
          have NB309_273 := n10_
          have NB284_309 := n11_
          have NB309_284 := n12_
          have NB0_309 := n13_
          have NB309_0 := n14_
          clear n0_ n1_ n2_ n3_ n4_ n5_ n6_ n7_ n8_ n9_ n10_ n11_ n12_ n13_ n14_
          clear hb hbox hg
          refine hK.out _ _ ⟨(blk_cell BK284.out 0).trans rfl, (blk_cell BK284.out 1).trans rfl⟩ (fun hHeld => ?_)
          clear hK K
          refine norm_ (a' := ?_) ?_ ?_
          rotate_left
          ·show Act.put _ (some 7) _ = _
           simp only [Act.put, List.setIfInBounds_toArray, List.set_cons_zero, List.set_cons_succ, i64_w, i32_w]
           rfl
          refine one_ (i := 2) (N := some 47) #[oT,oT,oT,oF,oF,oF,oF,oF,oF,oT,oF,oF,oF] rfl rfl (one_of HT_.out (by kernel_rfl)) (by decide) (fun K hK => ?_)
          refine goes_ Try.func77 (by kernel_rfl) rfl #[.pointer (some ⟨g, 0, none⟩), .int .i64 5] (by rfl) rfl rfl mt_ ?_
          with_reducible refine (spec_l01Cur_pick.calls g s0_0 x1001_16 x1002_16 5 t300 t301 t302 w0 _ ?side1 ?side2 A55.out).mono ?_
          (case side1 => repeat (first | (with_reducible first | exact HI0.out | apply IsS85.alloc | apply IsS85.drewN | apply IsS85.drew | apply IsS85.set_1 | apply IsS85.set_2 | refine IsS85.far ?_ NB0_273.out _ | refine IsS85.far ?_ NB0_284.out _ | refine IsS85.far ?_ NB0_309.out _) | exact HI0.out))
          (case side2 => repeat (first | (with_reducible first | exact HB.out | apply below_alloc | apply pw_below_drewN | apply below_drew1 | refine below_set ?_ (IsS85.ge HI0.out) | refine below_set ?_ GE273.out | refine below_set ?_ GE284.out | refine below_set ?_ GE309.out) | exact HB.out))
          rintro e w77 ⟨rfl, hi, hb, hk⟩
          refine ⟨_, rfl, ?_⟩
          have n0_ := Aside0.mk (Kd.R_mono (Kd.R_keep (IsS85.apart (show IsS85 w0 _ g s0_0 x1001_16 x1002_16 from by repeat (first | (with_reducible first | exact HI0.out | apply IsS85.alloc | apply IsS85.drewN | apply IsS85.drew | apply IsS85.set_1 | apply IsS85.set_2 | refine IsS85.far ?_ NB0_273.out _ | refine IsS85.far ?_ NB0_284.out _ | refine IsS85.far ?_ NB0_309.out _) | exact HI0.out)) (kr_ HO_285001) (by decide)) hk (fun _ h => h.2)) (fun _ h => h.1))
          have n1_ := Aside0.mk (KeepBut.blk hk (g' := gb273) (o := .cells #[.int .i64 0, .slice none 0 0] 24 (0, 0)) (bk_ BK273) NB273_0.out (by simp))
          have n2_ := Aside0.mk (KeepBut.blk hk (g' := gb284) (o := .cells #[.int .i64 x285000_1, .slice Ao74 x285001_1.length co74] 24 (0, 0)) (bk_ BK284) NB284_0.out (by simp))
          have n3_ := Aside0.mk (KeepBut.blk hk (g' := gb309) (o := .cells #[.int .i64 0, .slice none 0 0] 24 (0, 0)) (bk_ BK309) NB309_0.out (by simp))
          have n4_ := Aside0.mk (KeepBut.trans (by repeat (first | (with_reducible first | exact HK.out | apply KeepBut.set_ | apply keep_drewN | apply keep_drew | apply keep_alloc | refine keep_far ?_ GW273.out _ | refine keep_far ?_ GW284.out _ | refine keep_far ?_ GW309.out _) | exact HK.out)) hk (.inl rfl))
          have n5_ := Aside0.mk (hb)
          have n6_ := Aside0.mk (hi)
          clear HO_285001
          clear BK273
          clear BK284
          clear BK309
          clear HK
          clear HB
          clear HI0
          have HO_285001 := n0_
          have BK273 := n1_
          have BK284 := n2_
          have BK309 := n3_
          have HK := n4_
          have HB := n5_
          have HI0 := n6_
          clear n0_ n1_ n2_ n3_ n4_ n5_ n6_
          (try clear hb)
          (try clear hb2)
          (try clear hk)
          (try clear hi)
          refine hK.out _ _ ⟨(blk_cell BK284.out 0).trans rfl, (blk_cell BK284.out 1).trans rfl⟩ (fun hHeld => ?_)
          clear hK K
          refine norm_ (a' := ?_) ?_ ?_
          rotate_left
          ·show Act.put _ (some 47) _ = _
           simp only [Act.put, List.setIfInBounds_toArray, List.set_cons_zero, List.set_cons_succ, i64_w, i32_w]
           rfl
          refine pure_s (i := 3) (N := some 48) #[oT,oT,oT,oT,oF,oF,oF,oF,oF,oT,oF,oF,oF] (any_of HT_.out (by kernel_rfl)) (h := ?_)
          refine one_ (i := 4) (N := some 49) #[oT,oT,oT,oT,oT,oF,oF,oF,oF,oT,oF,oF,oF] rfl rfl (one_of HT_.out (by kernel_rfl)) (by decide) (fun K hK => ?_)
          refine goes_ Try.func44 (by kernel_rfl) rfl #[.agg #[.int .i64 x285000_1, .slice Ao74 x285001_1.length co74], .int .i64 (wrap64 (1 + t300))] (by rfl) rfl rfl mt_ ?_
          with_reducible refine (spec_SlabTake.calls kj16 x285000_1 _ _ x285001_1 (wrap64 (1 + t300)) t303 t304 t307 t308 _ ?side1 ?side2 A56.out).mono ?_
          (case side1 => repeat (first | exact (Kd.R_reads' HO_285001.out).2.2 | (with_reducible refine Kd.C_alloc ?_ _) | (with_reducible refine Kd.C_drewN ?_ _) | (with_reducible refine Kd.C_drew ?_)))
          (case side2 => exact (Kd.R_reads' HO_285001.out).2.1)
          rintro e w78 ⟨v305, rfl, ho0, hb⟩
          refine ⟨_, rfl, ?_⟩
          have n0_ := Aside0.mk (Kd.R_elder' (kr_ HO_285001) (Kd.R_base ho0) hb)
          have n1_ := Aside0.mk (Kd.R_lower (Kd.R_new' ho0 (Kd.R_lt (kr_ HO_285001))) (keep_size (w := w) (g := g) (row := none) (by repeat (first | (with_reducible first | exact HK.out | apply KeepBut.set_ | apply keep_drewN | apply keep_drew | apply keep_alloc | refine keep_far ?_ GW273.out _ | refine keep_far ?_ GW284.out _ | refine keep_far ?_ GW309.out _) | exact HK.out))))
          have n2_ := Aside0.mk (blk_below (g := gb273) (o := .cells #[.int .i64 0, .slice none 0 0] 24 (0, 0)) (bk_ BK273) hb)
          have n3_ := Aside0.mk (blk_below (g := gb284) (o := .cells #[.int .i64 x285000_1, .slice Ao74 x285001_1.length co74] 24 (0, 0)) (bk_ BK284) hb)
          have n4_ := Aside0.mk (IsS85.below (by repeat (first | (with_reducible first | exact HI0.out | apply IsS85.alloc | apply IsS85.drewN | apply IsS85.drew | apply IsS85.set_1 | apply IsS85.set_2 | refine IsS85.far ?_ NB0_273.out _ | refine IsS85.far ?_ NB0_284.out _ | refine IsS85.far ?_ NB0_309.out _) | exact HI0.out)) hb)
          have n5_ := Aside0.mk (blk_below (g := gb309) (o := .cells #[.int .i64 0, .slice none 0 0] 24 (0, 0)) (bk_ BK309) hb)
          have n6_ := Aside0.mk (KeepBut.trans (by repeat (first | (with_reducible first | exact HK.out | apply KeepBut.set_ | apply keep_drewN | apply keep_drew | apply keep_alloc | refine keep_far ?_ GW273.out _ | refine keep_far ?_ GW284.out _ | refine keep_far ?_ GW309.out _) | exact HK.out)) (KeepBut.of_below hb g none) (.inl rfl))
          have n7_ := Aside0.mk (below_step (by repeat (first | (with_reducible first | exact HB.out | apply below_alloc | apply pw_below_drewN | apply below_drew1 | refine below_set ?_ (IsS85.ge HI0.out) | refine below_set ?_ GE273.out | refine below_set ?_ GE284.out | refine below_set ?_ GE309.out) | exact HB.out)) hb)
          clear HO_285001
          clear BK273
          clear BK284
          clear HI0
          clear BK309
          clear HK
          clear HB
          have HO_285001 := n0_
          have HO306 := n1_
          have BK273 := n2_
          have BK284 := n3_
          have HI0 := n4_
          have BK309 := n5_
          have HK := n6_
          have HB := n7_
          clear n0_ n1_ n2_ n3_ n4_ n5_ n6_ n7_
          (try clear hb)
          (try clear hb2)
          (try clear hk)
          (try clear hi)
          (try clear ho0)
          refine hK.out _ _ ⟨(blk_cell BK284.out 0).trans rfl, (blk_cell BK284.out 1).trans rfl⟩ (fun hHeld => ?_)
          clear hK K
          refine norm_ (a' := ?_) ?_ ?_
          rotate_left
          ·show Act.put _ (some 49) _ = _
           simp only [Act.put, List.setIfInBounds_toArray, List.set_cons_zero, List.set_cons_succ, i64_w, i32_w]
           rfl
          refine pure_s (i := 5) (N := some 44) #[oT,oT,oT,oT,oT,oT,oF,oF,oF,oT,oF,oF,oF] (any_of HT_.out (by kernel_rfl)) (h := ?_)
          refine pure_s (i := 6) (N := some 50) #[oT,oT,oT,oT,oT,oT,oT,oF,oF,oT,oF,oF,oF] (any_of HT_.out (by kernel_rfl)) (h := ?_)
          refine pure_s (i := 7) (N := some 51) #[oT,oT,oT,oT,oT,oT,oT,oT,oF,oT,oF,oF,oF] (any_of HT_.out (by kernel_rfl)) (h := ?_)
          refine pure_s (i := 8) (N := some 52) (bs 13 10) (any_of HT_.out (by kernel_rfl)) (h := ?_)
          exact norm_ (by simp only [putAll, Act.put, List.setIfInBounds_toArray, List.set_cons_zero, List.set_cons_succ]) (hCont (v305, gb309) _ ⟨hHeld, (by (with_reducible repeat (first | apply Kd.R_alloc | apply Kd.R_drewN | apply Kd.R_drew)); exact Kd.R_mono HO306.out (fun _ hk => by first | exact hk.2 | grind)), (by (with_reducible repeat (first | apply Kd.R_alloc | apply Kd.R_drewN | apply Kd.R_drew)); exact Kd.R_mono HO_285001.out (fun _ hk => by first | exact hk.2 | grind)), (bk_ BK273), (bk_ BK284), (bk_ BK309), GW309.out, GE309.out, NB0_309.out, NB309_0.out, NB273_309.out, NB309_273.out, NB284_309.out, NB309_284.out, (by repeat (first | (with_reducible first | exact HI0.out | apply IsS85.alloc | apply IsS85.drewN | apply IsS85.drew | apply IsS85.set_1 | apply IsS85.set_2 | refine IsS85.far ?_ NB0_273.out _ | refine IsS85.far ?_ NB0_284.out _ | refine IsS85.far ?_ NB0_309.out _) | exact HI0.out)), (by repeat (first | (with_reducible first | exact HK.out | apply KeepBut.set_ | apply keep_drewN | apply keep_drew | apply keep_alloc | refine keep_far ?_ GW273.out _ | refine keep_far ?_ GW284.out _ | refine keep_far ?_ GW309.out _) | exact HK.out)), (by repeat (first | (with_reducible first | exact HB.out | apply below_alloc | apply pw_below_drewN | apply below_drew1 | refine below_set ?_ (IsS85.ge HI0.out) | refine below_set ?_ GE273.out | refine below_set ?_ GE284.out | refine below_set ?_ GE309.out) | exact HB.out))⟩)
        rintro ⟨v305, gb309⟩ w79 ⟨hS_, h0_, h1_, h2_, h3_, h4_, h5_, h6_, h7_, h8_, h9_, h10_, h11_, h12_, h13_, h14_, h15_⟩
        have n0_ : Aside0 (Kd.R (Kd.int .i64) 3 w79 w.heap.size (fun k_ => some k_ ≠ (.slice Ao74 x285001_1.length co74 : Value).ownBlock) v305 t304) := ⟨h0_⟩
        have n1_ : Aside0 (Kd.R (Kd.int .i64) 3 w79 w.heap.size (fun k_ => some k_ ≠ (v305 : Value).ownBlock) (.slice Ao74 x285001_1.length co74) x285001_1) := ⟨h1_⟩
        have n2_ : Aside0 (w79.heap[gb273]? = some (.cells #[.int .i64 0, .slice none 0 0] 24 (0, 0))) := ⟨h2_⟩
        have n3_ : Aside0 (w79.heap[gb284]? = some (.cells #[.int .i64 x285000_1, .slice Ao74 x285001_1.length co74] 24 (0, 0))) := ⟨h3_⟩
        have n4_ : Aside0 (w79.heap[gb309]? = some (.cells #[.int .i64 0, .slice none 0 0] 24 (0, 0))) := ⟨h4_⟩
        have n5_ : Aside0 (w.heap.size ≤ gb309) := ⟨h5_⟩
        have n6_ : Aside0 (w0.heap.size ≤ gb309) := ⟨h6_⟩
        have n7_ : Aside0 (g ≠ gb309) := ⟨h7_⟩
        have n8_ : Aside0 (gb309 ≠ g) := ⟨h8_⟩
        have n9_ : Aside0 (gb273 ≠ gb309) := ⟨h9_⟩
        have n10_ : Aside0 (gb309 ≠ gb273) := ⟨h10_⟩
        have n11_ : Aside0 (gb284 ≠ gb309) := ⟨h11_⟩
        have n12_ : Aside0 (gb309 ≠ gb284) := ⟨h12_⟩
        have n13_ : Aside0 (IsS85 w0 w79 g s0_0 t301 t302) := ⟨h13_⟩
        have n14_ : Aside0 (KeepBut w w79 g none) := ⟨h14_⟩
        have n15_ : Aside0 (Below w0.heap.size w0 w79) := ⟨h15_⟩
        clear HO_285001
        clear BK273
        clear BK284
        clear HI0
        clear HK
        clear HB
        clear h0_ h1_ h2_ h3_ h4_ h5_ h6_ h7_ h8_ h9_ h10_ h11_ h12_ h13_ h14_ h15_
        have HO306 := n0_
        have HO_285001 := n1_
        have BK273 := n2_
        have BK284 := n3_
        have BK309 := n4_
        have GW309 := n5_
        have GE309 := n6_
        have NB0_309 := n7_
        have NB309_0 := n8_
        have NB273_309 := n9_
        have NB309_273 := n10_
        have NB284_309 := n11_
        have NB309_284 := n12_
        have HI0 := n13_
        have HK := n14_
        have HB := n15_
        clear n0_ n1_ n2_ n3_ n4_ n5_ n6_ n7_ n8_ n9_ n10_ n11_ n12_ n13_ n14_ n15_
        have hHeld : w79.cell? ⟨gb284, 0, none⟩ = some (.int .i64 x285000_1) ∧ w79.cell? ⟨gb284, 1, none⟩ = some (.slice Ao74 x285001_1.length co74) := hS_
        obtain ⟨Ao81, co81, eo81⟩ := Kd.R_slice HO306.out
        (first | subst eo81 | (injection eo81 with f1_ f2_ f3_; have f4_ := f1_.symm; have f5_ := f3_.symm; clear f1_ f2_ f3_; subst f4_; subst f5_))
        refine norm_ (a' := ?_) ?_ ?_
        rotate_left
        ·simp only [putAll, Act.put, List.setIfInBounds_toArray, List.set_cons_zero, List.set_cons_succ]
         rfl
        refine one_ (i := 10) (N := none) (bs 13 11) rfl rfl (one_of HT_.out (by kernel_rfl)) (by decide) (fun K hK => ?_)
        have hs80 : w79.cell? ⟨gb309, 0, none⟩ = some (.int .i64 0) := (blk_cell BK309.out 0).trans rfl
        have hfs80 := blk_frozen BK309.out 0
        have hns80_0 := NB273_309.out
        have hns80_1 := NB284_309.out
        have hms80_0 := NB309_273.out
        have hms80_1 := NB309_284.out
        have hs82 : w79.cell? ⟨gb309, 1, none⟩ = some (.slice none 0 0) := (blk_cell BK309.out 1).trans rfl
        have hfs82 := blk_frozen BK309.out 1
        have hns82_0 := NB273_309.out
        have hns82_1 := NB284_309.out
        have hms82_0 := NB309_273.out
        have hms82_1 := NB309_284.out
        refine skip_ (w1 := ?_) (by rfl) rfl ?_ ?_
        rotate_left
        ·go_simp
         rfl
        refine hK.out _ _ ⟨((cell_far (p := ⟨gb309, _, none⟩) NB284_309.out _).trans (((cell_far (p := ⟨gb309, _, none⟩) NB284_309.out _).trans (hHeld.1)))), ((cell_far (p := ⟨gb309, _, none⟩) NB284_309.out _).trans (((cell_far (p := ⟨gb309, _, none⟩) NB284_309.out _).trans (hHeld.2))))⟩ (fun hHeld => ?_)
        clear hK K
        refine pure_s (i := 11) (N := some 8) (bs 13 12) (any_of HT_.out (by kernel_rfl)) (h := ?_)
        refine pure_s (i := 12) (N := some 9) (bs 13 13) (any_of HT_.out (by kernel_rfl)) (h := ?_)
        refine done_ (done_of HT_.out (by kernel_rfl)) ?_
        try go_wp2
        go_roundg kj16
        case measure => have := HK1.out; have := HJ16.out; omega
        case rel => exact ⟨(wrap64 (x4_1 - 1)), (t301), (t302), (x285000_1), (x285001_1), (.slice Ao74 x285001_1.length co74), (by first | rfl | (simp; done) | (simp [*]; done)), H', ⟨by have := HK1.out; have := HJ16.out; omega⟩, ⟨by (with_reducible repeat (first | apply Kd.R_alloc | apply Kd.R_drewN | apply Kd.R_drew)); exact Kd.R_mono (Kd.R_far (p := ⟨gb309, 1, none⟩) (Kd.R_far (p := ⟨gb309, 0, none⟩) (Kd.R_types HO_285001.out BK309.out (by decide)) (fun _ hk => by first | exact hk.2 | grind) (.int .i64 t303)) (fun _ hk => by first | exact hk.2 | grind) (.slice Ao81 t304.length co81)) (fun _ hk => by first | exact trivial | grind)⟩, ⟨by (with_reducible repeat (first | refine blk_drewN ?_ _ | refine blk_drew ?_ | refine blk_alloc ?_ _)); refine blk_far ?_ NB273_309.out _; (with_reducible repeat (first | refine blk_drewN ?_ _ | refine blk_drew ?_ | refine blk_alloc ?_ _)); refine blk_far ?_ NB273_309.out _; exact bk_ BK273⟩, ⟨by (with_reducible repeat (first | refine blk_drewN ?_ _ | refine blk_drew ?_ | refine blk_alloc ?_ _)); refine blk_far ?_ NB284_309.out _; (with_reducible repeat (first | refine blk_drewN ?_ _ | refine blk_drew ?_ | refine blk_alloc ?_ _)); refine blk_far ?_ NB284_309.out _; exact bk_ BK284⟩, ⟨by repeat (first | (with_reducible first | exact HI0.out | apply IsS85.alloc | apply IsS85.drewN | apply IsS85.drew | apply IsS85.set_1 | apply IsS85.set_2 | refine IsS85.far ?_ NB0_273.out _ | refine IsS85.far ?_ NB0_284.out _ | refine IsS85.far ?_ NB0_309.out _) | exact HI0.out)⟩, ⟨by repeat (first | (with_reducible first | exact HK.out | apply KeepBut.set_ | apply keep_drewN | apply keep_drew | apply keep_alloc | refine keep_far ?_ GW273.out _ | refine keep_far ?_ GW284.out _ | refine keep_far ?_ GW309.out _) | exact HK.out)⟩, ⟨by repeat (first | (with_reducible first | exact HB.out | apply below_alloc | apply pw_below_drewN | apply below_drew1 | refine below_set ?_ (IsS85.ge HI0.out) | refine below_set ?_ GE273.out | refine below_set ?_ GE284.out | refine below_set ?_ GE309.out) | exact HB.out)⟩⟩
   ·rw [if_neg c16] at H
    have c16b0 : decide (0 < x4_1) = false := decide_eq_false c16
    clear c16
    simp only [Option.some.injEq, Prod.mk.injEq] at H
    obtain ⟨rfl, rfl, rfl, rfl⟩ := H
    have hnb83 := NB284_273.out
    have hnc83 := NB273_284.out
    have hnb84 := NB284_0.out
    have hnc84 := NB0_284.out
    have hcz85_0 : wr.cell? ⟨gb284, 0, none⟩ = some (.int .i64 x285000_1) := (blk_cell BK284.out 0).trans rfl
    have hcz85_1 : wr.cell? ⟨gb284, 1, none⟩ = some (u285001) := (blk_cell BK284.out 1).trans rfl
    have hfz85_0 := blk_frozen BK284.out 0
    have hfz85_1 := blk_frozen BK284.out 1
    have hnb86 := NB273_0.out
    have hnc86 := NB0_273.out
    have hcz87_0 : wr.cell? ⟨gb273, 0, none⟩ = some (.int .i64 0) := (blk_cell BK273.out 0).trans rfl
    have hcz87_1 : wr.cell? ⟨gb273, 1, none⟩ = some (.slice none 0 0) := (blk_cell BK273.out 1).trans rfl
    have hfz87_0 := blk_frozen BK273.out 0
    have hfz87_1 := blk_frozen BK273.out 1
    obtain ⟨Ao88, co88, eo88⟩ := Kd.R_slice HO_285001.out
    subst eo88
    go_wp2
    refine bodyPost_ret (results_cell_row rfl _ _ gb273 24 #[.int .i64 x285000_1, .slice Ao88 x285001_1.length co88] (0, 0) _ rfl (by (with_reducible repeat (first | refine blk_drewN ?_ _ | refine blk_drew ?_ | refine blk_alloc ?_ _)); refine blk_put (cs := #[.int .i64 x285000_1, .slice none 0 0]) ?_ 1 _ rfl; (with_reducible repeat (first | refine blk_drewN ?_ _ | refine blk_drew ?_ | refine blk_alloc ?_ _)); refine blk_put (cs := #[.int .i64 0, .slice none 0 0]) ?_ 0 _ rfl; exact bk_ BK273) Try.underlying24 rfl (by kernel_rfl)) rfl ?_
    exact ⟨_, by first | rfl | (simp [errW_none, errW_some] <;> rfl) | (simp [*, errW_none, errW_some] <;> rfl), by (with_reducible repeat (first | apply Kd.R_alloc | apply Kd.R_drewN | apply Kd.R_drew)); exact Kd.R_mono (Kd.R_far (p := ⟨gb273, 1, none⟩) (Kd.R_far (p := ⟨gb273, 0, none⟩) (Kd.R_types HO_285001.out BK273.out (by decide)) (fun _ hk => by first | exact hk.2 | grind) (.int .i64 x285000_1)) (fun _ hk => by first | exact hk.2 | grind) (.slice Ao88 x285001_1.length co88)) (fun _ hk => by first | exact trivial | grind), by repeat (first | (with_reducible first | exact HI0.out | apply IsS85.alloc | apply IsS85.drewN | apply IsS85.drew | apply IsS85.set_1 | apply IsS85.set_2 | refine IsS85.far ?_ NB0_273.out _ | refine IsS85.far ?_ NB0_284.out _) | exact HI0.out), by repeat (first | (with_reducible first | exact HB.out | apply below_alloc | apply pw_below_drewN | apply below_drew1 | refine below_set ?_ (IsS85.ge HI0.out) | refine below_set ?_ GE273.out | refine below_set ?_ GE284.out) | exact HB.out), by repeat (first | (with_reducible first | exact HK.out | apply KeepBut.set_ | apply keep_drewN | apply keep_drew | apply keep_alloc | refine keep_far ?_ GW273.out _ | refine keep_far ?_ GW284.out _) | exact HK.out)⟩

end Go.Proofs.Ytaglpjlapfocfaa.PFnTakeGive
