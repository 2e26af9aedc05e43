-- printed by a program of this session (wip/printx) out of the translation; Lean checks it
import Derived.Test.YtaglpjlapfocfaaPFnTakeGivex0
import Derived.Test.YtaglpjlapfocfaaPFnTakeGivex7
import Derived.Test.YtaglpjlapfocfaaPFnTakeGivex8
import Derived.Test.YtaglpjlapfocfaaPFnTakeGivex10
namespace Go.Proofs.Ytaglpjlapfocfaa.PFnTakeGive
open Go.RowKit Go.Proofs.YtaglpjlapfocfaaW.PrintWords Go.Proofs.YtaglpjlapfocfaaW.PrintLast Go.Proofs.YtaglpjlapfocfaaW.PrintMore
attribute [local go_sem] max2_int min2_int max_two min_two max_three min_three max_four min_four   -- for this text's walks alone
set_option linter.unusedVariables false
set_option linter.unusedSimpArgs false

/-! ### spec_l01Cur_badSlab: function 76 -/
def spec_l01Cur_badSlab.l0 : Nat → List Int → Int → Int → Int → List Int → Option (Int × List Int × Int × Int)
  | 0, _, _, _, _, _ => none
  | k + 1, x1000, x1001, x1002, x318000, x318001 => (spec_l01Cur_pick.f x1000 x1001 x1002 2).bind fun bt351 => (if (x318001.length : Int) < (wrap64 (128 + bt351.1)) then (if x318001.length < 17592186044416 then (spec_l01Cur_badSlab.l0 k x1000 bt351.2.1 bt351.2.2 x318000 (x318001 ++ [(-1)])) else (none)) else (some (x318000, x318001, bt351.2.1, bt351.2.2)))
def spec_l01Cur_badSlab.f (k : Nat) (s0_0 : List Int) (s0_1 : Int) (s0_2 : Int) : Option (Int × List Int × Int × Int) := (spec_l01Cur_slab.f k s0_0 s0_1 s0_2).bind fun bt311 => ((spec_l01Cur_pick.f s0_0 bt311.2.2.1 bt311.2.2.2 12).bind fun bt318 => (if bt318.1 = 0 then ((spec_l01Cur_raw.f s0_0 bt318.2.1 bt318.2.2).bind fun bt321 => ((spec_l01Cur_pick.f s0_0 bt321.2.1 bt321.2.2 20).bind fun bt324 => ((some (([bt321.1, bt324.1] : List Int) : List Int)).bind fun y327 => ((spec_l01Cur_pick.f s0_0 bt324.2.1 bt324.2.2 2).bind fun bt330 => (if 0 ≤ bt330.1 then (if bt330.1 < (y327.length : Int) then (some (rd y327 bt330.1, bt311.2.1, bt330.2.1, bt330.2.2)) else (none)) else (none)))))) else (if bt318.1 = 1 then (if (bt311.2.1.length : Int) > 0 then ((spec_l01Cur_pick.f s0_0 bt318.2.1 bt318.2.2 (bt311.2.1.length : Int)).bind fun bt334 => ((spec_l01Cur_pick.f s0_0 bt334.2.1 bt334.2.2 (bt311.2.1.length : Int)).bind fun bt337 => ((spec_l01Cur_raw.f s0_0 bt337.2.1 bt337.2.2).bind fun bt340 => ((some (([bt337.1, bt340.1, (-1)] : List Int) : List Int)).bind fun y343 => ((spec_l01Cur_pick.f s0_0 bt340.2.1 bt340.2.2 3).bind fun bt346 => (if 0 ≤ bt346.1 then (if bt346.1 < (y343.length : Int) then (if 0 ≤ bt334.1 then (if bt334.1 < (bt311.2.1.length : Int) then (some (bt311.1, (bt311.2.1.set (bt334.1 : Int).toNat (rd y343 bt346.1)), bt346.2.1, bt346.2.2)) else (none)) else (none)) else (none)) else (none))))))) else (some (bt311.1, bt311.2.1, bt318.2.1, bt318.2.2))) else (if bt318.1 = 2 then (spec_l01Cur_badSlab.l0 k s0_0 bt318.2.1 bt318.2.2 bt311.1 bt311.2.1) else (some (bt311.1, bt311.2.1, bt318.2.1, bt318.2.2))))))
theorem spec_l01Cur_badSlab.mono_l : ∀ k, (∀ y0 y1 y2 y3 y4, LeO (spec_l01Cur_badSlab.l0 k y0 y1 y2 y3 y4) (spec_l01Cur_badSlab.l0 (k + 1) y0 y1 y2 y3 y4))
 | 0 => fun _ _ _ _ _ r h => by simp [spec_l01Cur_badSlab.l0] at h
 | k + 1 => by
  have ih0 := spec_l01Cur_badSlab.mono_l k
  ·intro y0 y1 y2 y3 y4
   unfold spec_l01Cur_badSlab.l0
   repeat' first
   | (with_reducible exact ih0 _ _ _ _ _)
   | (with_reducible exact spec_l01Cur_slab.mono _ _ _ _)
   | (with_reducible exact LeO.refl _)
   | (with_reducible exact LeO.none _)
   | (with_reducible refine LeO.ite ?_ ?_)
   | (with_reducible refine LeO.bind ?_ (fun _ => ?_))
   | exact ih0 _ _ _ _ _
   | exact spec_l01Cur_slab.mono _ _ _ _
   | exact LeO.none _
   | refine LeO.ite ?_ ?_
   | refine LeO.bind ?_ (fun _ => ?_)
theorem spec_l01Cur_badSlab.mono : ∀ a0 a1 a2 k, LeO (spec_l01Cur_badSlab.f k a0 a1 a2) (spec_l01Cur_badSlab.f (k + 1) a0 a1 a2) := by
 intro a0 a1 a2 k
 have ih0 := spec_l01Cur_badSlab.mono_l k
 unfold spec_l01Cur_badSlab.f
 repeat' first
   | (with_reducible exact ih0 _ _ _ _ _)
   | (with_reducible exact spec_l01Cur_slab.mono _ _ _ _)
   | (with_reducible exact LeO.refl _)
   | (with_reducible exact LeO.none _)
   | (with_reducible refine LeO.ite ?_ ?_)
   | (with_reducible refine LeO.bind ?_ (fun _ => ?_))
   | exact ih0 _ _ _ _ _
   | exact spec_l01Cur_slab.mono _ _ _ _
   | exact LeO.none _
   | refine LeO.ite ?_ ?_
   | refine LeO.bind ?_ (fun _ => ?_)
def spec_l01Cur_badSlab.T7 : Bool × List (List Nat × List Nat) := (true, [([], []), ([0], [0]), ([], []), ([], []), ([3], [3]), ([4], [4]), ([2, 5], [2, 5]), ([], []), ([], []), ([8], [8]), ([9], [9]), ([7, 10, 6], [7, 10]), ([], []), ([12, 11], [12]), ([11, 13], [11, 13]), ([], []), ([15, 13], [15]), ([14, 16], [14, 16]), ([17], [17]), ([1, 6, 0, 1, 2, 3, 4, 5, 6, 7, 8, 9, 10, 11, 12, 13, 14, 15, 16, 17, 18], [1, 6]), ([19, 18, 16, 0, 1, 2, 3, 4, 5, 6, 7, 8, 9, 10, 11, 12, 13, 14, 15, 16, 17, 18], [18, 19])])
def spec_l01Cur_badSlab.B7 : List Nat := [0, 1, 0, 0, 8, 24, 60, 0, 0, 256, 768, 2044, 0, 8188, 16380, 0, 49148, 131068, 262140, 524287, 1048575]
theorem spec_l01Cur_badSlab.tab7 : rtab .any (opsOf Try.f76 7) = spec_l01Cur_badSlab.T7 := by kernel_rfl
theorem spec_l01Cur_badSlab.bits7 : waitsOk spec_l01Cur_badSlab.T7.2 spec_l01Cur_badSlab.B7 = true := by kernel_rfl
set_option maxHeartbeats 8000000 in
set_option maxRecDepth 100000 in
theorem spec_l01Cur_badSlab.calls (k : Nat) (g : Nat) (s0_0 : List Int) (s0_1 : Int) (s0_2 : Int) (r1 : Int) (r2 : List Int) (r3 : Int) (r4 : Int) (w0 w : World) (hI : IsS85 w0 w g s0_0 s0_1 s0_2) (hB : Below w0.heap.size w0 w) (h : spec_l01Cur_badSlab.f k s0_0 s0_1 s0_2 = some (r1, r2, r3, r4)) :
  Calls Try.prog 76 #[.pointer (some ⟨g, 0, none⟩)] w fun e w' => ∃ v1_ : Value, e = .returned (.agg #[.int .i64 r1, v1_]) ∧ Kd.R (Kd.int .i64) 3 w' w.heap.size (fun _ => True) v1_ r2 ∧ IsS85 w0 w' g s0_0 r3 r4 ∧ Below w0.heap.size w0 w' ∧ KeepBut w w' g none := by
 have hu24 := Try.underlying24
 have HI0 := Aside0.mk hI
 have HK := Aside0.mk (KeepBut.refl w g none)
 have HL := Aside0.mk hB.size
 clear hI
 have HW0 := Aside0.mk hB.size
 have HB := Aside0.mk hB
 clear hB
 have H : ((spec_l01Cur_slab.f k s0_0 s0_1 s0_2).bind fun bt311 => ((spec_l01Cur_pick.f s0_0 bt311.2.2.1 bt311.2.2.2 12).bind fun bt318 => (if bt318.1 = 0 then ((spec_l01Cur_raw.f s0_0 bt318.2.1 bt318.2.2).bind fun bt321 => ((spec_l01Cur_pick.f s0_0 bt321.2.1 bt321.2.2 20).bind fun bt324 => ((some (([bt321.1, bt324.1] : List Int) : List Int)).bind fun y327 => ((spec_l01Cur_pick.f s0_0 bt324.2.1 bt324.2.2 2).bind fun bt330 => (if 0 ≤ bt330.1 then (if bt330.1 < (y327.length : Int) then (some (rd y327 bt330.1, bt311.2.1, bt330.2.1, bt330.2.2)) else (none)) else (none)))))) else (if bt318.1 = 1 then (if (bt311.2.1.length : Int) > 0 then ((spec_l01Cur_pick.f s0_0 bt318.2.1 bt318.2.2 (bt311.2.1.length : Int)).bind fun bt334 => ((spec_l01Cur_pick.f s0_0 bt334.2.1 bt334.2.2 (bt311.2.1.length : Int)).bind fun bt337 => ((spec_l01Cur_raw.f s0_0 bt337.2.1 bt337.2.2).bind fun bt340 => ((some (([bt337.1, bt340.1, (-1)] : List Int) : List Int)).bind fun y343 => ((spec_l01Cur_pick.f s0_0 bt340.2.1 bt340.2.2 3).bind fun bt346 => (if 0 ≤ bt346.1 then (if bt346.1 < (y343.length : Int) then (if 0 ≤ bt334.1 then (if bt334.1 < (bt311.2.1.length : Int) then (some (bt311.1, (bt311.2.1.set (bt334.1 : Int).toNat (rd y343 bt346.1)), bt346.2.1, bt346.2.2)) else (none)) else (none)) else (none)) else (none))))))) else (some (bt311.1, bt311.2.1, bt318.2.1, bt318.2.2))) else (if bt318.1 = 2 then (spec_l01Cur_badSlab.l0 k s0_0 bt318.2.1 bt318.2.2 bt311.1 bt311.2.1) else (some (bt311.1, bt311.2.1, bt318.2.1, bt318.2.2))))))) = some (r1, r2, r3, r4) := h
 clear h
 replace H := Option.bind_eq_some_iff.mp H
 obtain ⟨⟨t311, t312, t315, t316⟩, A20, H⟩ := H
 replace H : ((spec_l01Cur_pick.f s0_0 t315 t316 12).bind fun bt318 => (if bt318.1 = 0 then ((spec_l01Cur_raw.f s0_0 bt318.2.1 bt318.2.2).bind fun bt321 => ((spec_l01Cur_pick.f s0_0 bt321.2.1 bt321.2.2 20).bind fun bt324 => ((some (([bt321.1, bt324.1] : List Int) : List Int)).bind fun y327 => ((spec_l01Cur_pick.f s0_0 bt324.2.1 bt324.2.2 2).bind fun bt330 => (if 0 ≤ bt330.1 then (if bt330.1 < (y327.length : Int) then (some (rd y327 bt330.1, t312, bt330.2.1, bt330.2.2)) else (none)) else (none)))))) else (if bt318.1 = 1 then (if (t312.length : Int) > 0 then ((spec_l01Cur_pick.f s0_0 bt318.2.1 bt318.2.2 (t312.length : Int)).bind fun bt334 => ((spec_l01Cur_pick.f s0_0 bt334.2.1 bt334.2.2 (t312.length : Int)).bind fun bt337 => ((spec_l01Cur_raw.f s0_0 bt337.2.1 bt337.2.2).bind fun bt340 => ((some (([bt337.1, bt340.1, (-1)] : List Int) : List Int)).bind fun y343 => ((spec_l01Cur_pick.f s0_0 bt340.2.1 bt340.2.2 3).bind fun bt346 => (if 0 ≤ bt346.1 then (if bt346.1 < (y343.length : Int) then (if 0 ≤ bt334.1 then (if bt334.1 < (t312.length : Int) then (some (t311, (t312.set (bt334.1 : Int).toNat (rd y343 bt346.1)), bt346.2.1, bt346.2.2)) else (none)) else (none)) else (none)) else (none))))))) else (some (t311, t312, bt318.2.1, bt318.2.2))) else (if bt318.1 = 2 then (spec_l01Cur_badSlab.l0 k s0_0 bt318.2.1 bt318.2.2 t311 t312) else (some (t311, t312, bt318.2.1, bt318.2.2)))))) = some (r1, r2, r3, r4) := H
 have A2 := Aside0.mk A20
 clear A20
 replace H := Option.bind_eq_some_iff.mp H
 obtain ⟨⟨t318, t319, t320⟩, A30, H⟩ := H
 replace H : (if t318 = 0 then ((spec_l01Cur_raw.f s0_0 t319 t320).bind fun bt321 => ((spec_l01Cur_pick.f s0_0 bt321.2.1 bt321.2.2 20).bind fun bt324 => ((some (([bt321.1, bt324.1] : List Int) : List Int)).bind fun y327 => ((spec_l01Cur_pick.f s0_0 bt324.2.1 bt324.2.2 2).bind fun bt330 => (if 0 ≤ bt330.1 then (if bt330.1 < (y327.length : Int) then (some (rd y327 bt330.1, t312, bt330.2.1, bt330.2.2)) else (none)) else (none)))))) else (if t318 = 1 then (if (t312.length : Int) > 0 then ((spec_l01Cur_pick.f s0_0 t319 t320 (t312.length : Int)).bind fun bt334 => ((spec_l01Cur_pick.f s0_0 bt334.2.1 bt334.2.2 (t312.length : Int)).bind fun bt337 => ((spec_l01Cur_raw.f s0_0 bt337.2.1 bt337.2.2).bind fun bt340 => ((some (([bt337.1, bt340.1, (-1)] : List Int) : List Int)).bind fun y343 => ((spec_l01Cur_pick.f s0_0 bt340.2.1 bt340.2.2 3).bind fun bt346 => (if 0 ≤ bt346.1 then (if bt346.1 < (y343.length : Int) then (if 0 ≤ bt334.1 then (if bt334.1 < (t312.length : Int) then (some (t311, (t312.set (bt334.1 : Int).toNat (rd y343 bt346.1)), bt346.2.1, bt346.2.2)) else (none)) else (none)) else (none)) else (none))))))) else (some (t311, t312, t319, t320))) else (if t318 = 2 then (spec_l01Cur_badSlab.l0 k s0_0 t319 t320 t311 t312) else (some (t311, t312, t319, t320))))) = some (r1, r2, r3, r4) := H
 have A3 := Aside0.mk A30
 clear A30
 by_cases c4 : t318 = 0
 ·rw [if_pos c4] at H
  have c4b0 : (t318 == 0) = true := beq_iff_eq.mpr c4
  have c4b1 : (t318 != 0) = false := bne_eq_false_iff_eq.mpr c4
  clear c4
  replace H := Option.bind_eq_some_iff.mp H
  obtain ⟨⟨t321, t322, t323⟩, A50, H⟩ := H
  replace H : ((spec_l01Cur_pick.f s0_0 t322 t323 20).bind fun bt324 => ((some (([t321, bt324.1] : List Int) : List Int)).bind fun y327 => ((spec_l01Cur_pick.f s0_0 bt324.2.1 bt324.2.2 2).bind fun bt330 => (if 0 ≤ bt330.1 then (if bt330.1 < (y327.length : Int) then (some (rd y327 bt330.1, t312, bt330.2.1, bt330.2.2)) else (none)) else (none))))) = some (r1, r2, r3, r4) := H
  have A5 := Aside0.mk A50
  clear A50
  replace H := Option.bind_eq_some_iff.mp H
  obtain ⟨⟨t324, t325, t326⟩, A60, H⟩ := H
  replace H : ((some (([t321, t324] : List Int) : List Int)).bind fun y327 => ((spec_l01Cur_pick.f s0_0 t325 t326 2).bind fun bt330 => (if 0 ≤ bt330.1 then (if bt330.1 < (y327.length : Int) then (some (rd y327 bt330.1, t312, bt330.2.1, bt330.2.2)) else (none)) else (none)))) = some (r1, r2, r3, r4) := H
  have A6 := Aside0.mk A60
  clear A60
  obtain ⟨y327, hy327⟩ : ∃ y_ : List Int, y_ = (([t321, t324] : List Int)) := ⟨_, rfl⟩
  replace H : ((spec_l01Cur_pick.f s0_0 t325 t326 2).bind fun bt330 => (if 0 ≤ bt330.1 then (if bt330.1 < (y327.length : Int) then (some (rd y327 bt330.1, t312, bt330.2.1, bt330.2.2)) else (none)) else (none))) = some (r1, r2, r3, r4) := by first | (rw [hy327]; with_reducible exact H) | (have H2_ := (Option.bind_some _ _).symm.trans H; rw [hy327]; with_reducible exact H2_) | (have H2_ := (Option.bind_some _ _).symm.trans H; with_reducible exact H2_) | with_reducible exact H | (rw [hy327]; exact H) | exact H
  have Ny327 := Aside0.mk hy327
  clear hy327
  replace H := Option.bind_eq_some_iff.mp H
  obtain ⟨⟨t330, t331, t332⟩, A70, H⟩ := H
  replace H : (if 0 ≤ t330 then (if t330 < (y327.length : Int) then (some (rd y327 t330, t312, t331, t332)) else (none)) else (none)) = some (r1, r2, r3, r4) := H
  have A7 := Aside0.mk A70
  clear A70
  by_cases c8 : 0 ≤ t330
  ·rw [if_pos c8] at H
   have c8b0 : decide (0 ≤ t330) = true := decide_eq_true c8
   clear c8
   by_cases c9 : t330 < (y327.length : Int)
   ·rw [if_pos c9] at H
    have c9b0 : decide (t330 < (y327.length : Int)) = true := decide_eq_true c9
    clear c9
    simp only [Option.some.injEq, Prod.mk.injEq] at H
    obtain ⟨rfl, rfl, rfl, rfl⟩ := H
    go_enter Try.func76, Try.ntmps76
    go_wp2_with (first | ((with_reducible refine gate_dst (N := 2) rfl ?_); refine box_event ?hg (N := 2) ?hd (cs := #[.int .i64 0, .slice none 0 0]) (t := 24) ?hr ?_; (case hd => rfl); (case hg => rfl); (case hr => first | (go_simp; done) | (go_simp; rfl)); intro gb310 hg w10 hbox hb; have n0_ := Aside0.mk (IsS85.below (by repeat (first | (with_reducible first | exact HI0.out | apply IsS85.alloc | apply IsS85.drewN | apply IsS85.drew | apply IsS85.set_1 | apply IsS85.set_2) | exact HI0.out)) hb); have n1_ := Aside0.mk (KeepBut.trans (by repeat (first | (with_reducible first | exact HK.out | apply KeepBut.set_ | apply keep_drewN | apply keep_drew | apply keep_alloc) | exact HK.out)) (KeepBut.of_below hb g none) (.inl rfl)); have n2_ := Aside0.mk (below_step (by repeat (first | (with_reducible first | exact HB.out | apply below_alloc | apply pw_below_drewN | apply below_drew1 | refine below_set ?_ (IsS85.ge HI0.out)) | exact HB.out)) hb); have n3_ := Aside0.mk (hbox); have n4_ := Aside0.mk ((by rw [hg]; exact (keep_size (w := w) (g := g) (row := none) (by repeat (first | (with_reducible first | exact HK.out | apply KeepBut.set_ | apply keep_drewN | apply keep_drew | apply keep_alloc) | exact HK.out))) : w.heap.size ≤ gb310)); have n5_ := Aside0.mk ((Nat.le_trans HW0.out (by rw [hg]; exact (keep_size (w := w) (g := g) (row := none) (by repeat (first | (with_reducible first | exact HK.out | apply KeepBut.set_ | apply keep_drewN | apply keep_drew | apply keep_alloc) | exact HK.out))) : w.heap.size ≤ gb310) : w0.heap.size ≤ gb310)); have n6_ := Aside0.mk ((by rw [hg]; exact Nat.ne_of_lt (IsS85.lt (show IsS85 w0 _ g s0_0 s0_1 s0_2 from by repeat (first | (with_reducible first | exact HI0.out | apply IsS85.alloc | apply IsS85.drewN | apply IsS85.drew | apply IsS85.set_1 | apply IsS85.set_2) | exact HI0.out))) : g ≠ gb310)); have n7_ := Aside0.mk ((by rw [hg]; exact Nat.ne_of_gt (IsS85.lt (show IsS85 w0 _ g s0_0 s0_1 s0_2 from by repeat (first | (with_reducible first | exact HI0.out | apply IsS85.alloc | apply IsS85.drewN | apply IsS85.drew | apply IsS85.set_1 | apply IsS85.set_2) | exact HI0.out))) : gb310 ≠ g)); clear HI0; clear HK; clear HB; have HI0 := n0_; have HK := n1_; have HB := n2_; have BK310 := n3_; have GW310 := n4_; have GE310 := n5_; have NB0_310 := n6_; have NB310_0 := n7_; clear n0_ n1_ n2_ n3_ n4_ n5_ n6_ n7_; clear hb hbox hg) | ((with_reducible refine gate_callee (f := 82) rfl ?_); refine goesL_ (some 5) rfl rfl Try.func82 (by kernel_rfl) rfl #[.pointer (some ⟨g, 0, none⟩)] rfl mt_ ?_; (with_reducible refine (spec_l01Cur_slab.calls k g s0_0 s0_1 s0_2 t311 t312 t315 t316 w0 _ ?side1 ?side2 A2.out).mono ?_); (case side1 => repeat (first | (with_reducible first | exact HI0.out | apply IsS85.alloc | apply IsS85.drewN | apply IsS85.drew | apply IsS85.set_1 | apply IsS85.set_2 | refine IsS85.far ?_ NB0_310.out _) | exact HI0.out)); (case side2 => repeat (first | (with_reducible first | exact HB.out | apply below_alloc | apply pw_below_drewN | apply below_drew1 | refine below_set ?_ (IsS85.ge HI0.out) | refine below_set ?_ GE310.out) | exact HB.out)); rintro e w11 ⟨v313, rfl, ho0, hi, hb, hk⟩; refine ⟨_, rfl, ?_⟩; have n0_ := Aside0.mk (KeepBut.blk hk (g' := gb310) (o := .cells #[.int .i64 0, .slice none 0 0] 24 (0, 0)) (bk_ BK310) NB310_0.out (by simp)); have n1_ := Aside0.mk (Kd.R_lower ho0 (keep_size (w := w) (g := g) (row := none) (by repeat (first | (with_reducible first | exact HK.out | apply KeepBut.set_ | apply keep_drewN | apply keep_drew | apply keep_alloc | refine keep_far ?_ GW310.out _) | exact HK.out)))); have n2_ := Aside0.mk (KeepBut.trans (by repeat (first | (with_reducible first | exact HK.out | apply KeepBut.set_ | apply keep_drewN | apply keep_drew | apply keep_alloc | refine keep_far ?_ GW310.out _) | exact HK.out)) hk (.inl rfl)); have n3_ := Aside0.mk (hb); have n4_ := Aside0.mk (hi); clear BK310; clear HK; clear HB; clear HI0; have BK310 := n0_; have HO314 := n1_; have HK := n2_; have HB := n3_; have HI0 := n4_; clear n0_ n1_ n2_ n3_ n4_; (try clear hb); (try clear hb2); (try clear hk); (try clear hi); (try clear ho0)) | ((with_reducible refine gate_dst (N := 3) rfl ?_); refine box_event ?hg (N := 3) ?hd (cs := #[.int .i64 0, .slice none 0 0]) (t := 24) ?hr ?_; (case hd => rfl); (case hg => rfl); (case hr => first | (go_simp; done) | (go_simp; rfl)); intro gb317 hg w12 hbox hb; have n0_ := Aside0.mk (Kd.R_below (kr_ HO314) hb); have n1_ := Aside0.mk (IsS85.below (by repeat (first | (with_reducible first | exact HI0.out | apply IsS85.alloc | apply IsS85.drewN | apply IsS85.drew | apply IsS85.set_1 | apply IsS85.set_2 | refine IsS85.far ?_ NB0_310.out _) | exact HI0.out)) hb); have n2_ := Aside0.mk (blk_below (g := gb310) (o := .cells #[.int .i64 0, .slice none 0 0] 24 (0, 0)) (bk_ BK310) hb); have n3_ := Aside0.mk (KeepBut.trans (by repeat (first | (with_reducible first | exact HK.out | apply KeepBut.set_ | apply keep_drewN | apply keep_drew | apply keep_alloc | refine keep_far ?_ GW310.out _) | exact HK.out)) (KeepBut.of_below hb g none) (.inl rfl)); have n4_ := Aside0.mk (below_step (by repeat (first | (with_reducible first | exact HB.out | apply below_alloc | apply pw_below_drewN | apply below_drew1 | refine below_set ?_ (IsS85.ge HI0.out) | refine below_set ?_ GE310.out) | exact HB.out)) hb); have n5_ := Aside0.mk (hbox); have n6_ := Aside0.mk ((by rw [hg]; exact (keep_size (w := w) (g := g) (row := none) (by repeat (first | (with_reducible first | exact HK.out | apply KeepBut.set_ | apply keep_drewN | apply keep_drew | apply keep_alloc | refine keep_far ?_ GW310.out _) | exact HK.out))) : w.heap.size ≤ gb317)); have n7_ := Aside0.mk ((Nat.le_trans HW0.out (by rw [hg]; exact (keep_size (w := w) (g := g) (row := none) (by repeat (first | (with_reducible first | exact HK.out | apply KeepBut.set_ | apply keep_drewN | apply keep_drew | apply keep_alloc | refine keep_far ?_ GW310.out _) | exact HK.out))) : w.heap.size ≤ gb317) : w0.heap.size ≤ gb317)); have n8_ := Aside0.mk ((by rw [hg]; exact Nat.ne_of_lt (blk_lt (g := gb310) (o := .cells #[.int .i64 0, .slice none 0 0] 24 (0, 0)) (bk_ BK310)) : gb310 ≠ gb317)); have n9_ := Aside0.mk ((by rw [hg]; exact Nat.ne_of_gt (blk_lt (g := gb310) (o := .cells #[.int .i64 0, .slice none 0 0] 24 (0, 0)) (bk_ BK310)) : gb317 ≠ gb310)); have n10_ := Aside0.mk ((by rw [hg]; exact Nat.ne_of_lt (IsS85.lt (show IsS85 w0 _ g s0_0 t315 t316 from by repeat (first | (with_reducible first | exact HI0.out | apply IsS85.alloc | apply IsS85.drewN | apply IsS85.drew | apply IsS85.set_1 | apply IsS85.set_2 | refine IsS85.far ?_ NB0_310.out _) | exact HI0.out))) : g ≠ gb317)); have n11_ := Aside0.mk ((by rw [hg]; exact Nat.ne_of_gt (IsS85.lt (show IsS85 w0 _ g s0_0 t315 t316 from by repeat (first | (with_reducible first | exact HI0.out | apply IsS85.alloc | apply IsS85.drewN | apply IsS85.drew | apply IsS85.set_1 | apply IsS85.set_2 | refine IsS85.far ?_ NB0_310.out _) | exact HI0.out))) : gb317 ≠ g)); clear HO314; clear HI0; clear BK310; clear HK; clear HB; have HO314 := n0_; have HI0 := n1_; have BK310 := n2_; have HK := n3_; have HB := n4_; have BK317 := n5_; have GW317 := n6_; have GE317 := n7_; have NB310_317 := n8_; have NB317_310 := n9_; have NB0_317 := n10_; have NB317_0 := n11_; clear n0_ n1_ n2_ n3_ n4_ n5_ n6_ n7_ n8_ n9_ n10_ n11_; clear hb hbox hg; have hnb13 := NB317_310.out; have hnc13 := NB310_317.out; have hnb14 := NB317_0.out; have hnc14 := NB0_317.out; have hcz15_0 : w12.cell? ⟨gb317, 0, none⟩ = some (.int .i64 0) := (blk_cell BK317.out 0).trans rfl; have hcz15_1 : w12.cell? ⟨gb317, 1, none⟩ = some (.slice none 0 0) := (blk_cell BK317.out 1).trans rfl; have hfz15_0 := blk_frozen BK317.out 0; have hfz15_1 := blk_frozen BK317.out 1; obtain ⟨Ao16, co16, eo16⟩ := Kd.R_slice HO314.out; subst eo16) | ((with_reducible refine gate_callee (f := 77) rfl ?_); refine goesL_ (some 7) rfl rfl Try.func77 (by kernel_rfl) rfl #[.pointer (some ⟨g, 0, none⟩), .int .i64 12] rfl mt_ ?_; (with_reducible refine (spec_l01Cur_pick.calls g s0_0 t315 t316 12 t318 t319 t320 w0 _ ?side1 ?side2 A3.out).mono ?_); (case side1 => repeat (first | (with_reducible first | exact HI0.out | apply IsS85.alloc | apply IsS85.drewN | apply IsS85.drew | apply IsS85.set_1 | apply IsS85.set_2 | refine IsS85.far ?_ NB0_310.out _ | refine IsS85.far ?_ NB0_317.out _) | exact HI0.out)); (case side2 => repeat (first | (with_reducible first | exact HB.out | apply below_alloc | apply pw_below_drewN | apply below_drew1 | refine below_set ?_ (IsS85.ge HI0.out) | refine below_set ?_ GE310.out | refine below_set ?_ GE317.out) | exact HB.out)); rintro e w17 ⟨rfl, hi, hb, hk⟩; refine ⟨_, rfl, ?_⟩; have n0_ := Aside0.mk (KeepBut.blk hk (g' := gb310) (o := .cells #[.int .i64 0, .slice none 0 0] 24 (0, 0)) (by (with_reducible repeat (first | refine blk_drewN ?_ _ | refine blk_drew ?_ | refine blk_alloc ?_ _)); refine blk_far ?_ NB310_317.out _; (with_reducible repeat (first | refine blk_drewN ?_ _ | refine blk_drew ?_ | refine blk_alloc ?_ _)); refine blk_far ?_ NB310_317.out _; exact bk_ BK310) NB310_0.out (by simp)); have n1_ := Aside0.mk (Kd.R_mono (Kd.R_keep (IsS85.apart (show IsS85 w0 _ g s0_0 t315 t316 from by repeat (first | (with_reducible first | exact HI0.out | apply IsS85.alloc | apply IsS85.drewN | apply IsS85.drew | apply IsS85.set_1 | apply IsS85.set_2 | refine IsS85.far ?_ NB0_310.out _ | refine IsS85.far ?_ NB0_317.out _) | exact HI0.out)) (by (with_reducible repeat (first | apply Kd.R_alloc | apply Kd.R_drewN | apply Kd.R_drew)); exact (Kd.R_mono (Kd.R_far (p := ⟨gb317, 1, none⟩) (Kd.R_far (p := ⟨gb317, 0, none⟩) (Kd.R_types HO314.out BK317.out (by decide)) (fun _ hk => by first | exact hk.2 | grind) (.int .i64 t311)) (fun _ hk => by first | exact hk.2 | grind) (.slice Ao16 t312.length co16)) (fun _ h_ => h_.1))) (by decide)) hk (fun _ h => h.2)) (fun _ h => h.1)); have n2_ := Aside0.mk (KeepBut.blk hk (g' := gb317) (o := .cells #[.int .i64 t311, .slice Ao16 t312.length co16] 24 (0, 0)) (by (with_reducible repeat (first | refine blk_drewN ?_ _ | refine blk_drew ?_ | refine blk_alloc ?_ _)); refine blk_put (cs := #[.int .i64 t311, .slice none 0 0]) ?_ 1 _ rfl; (with_reducible repeat (first | refine blk_drewN ?_ _ | refine blk_drew ?_ | refine blk_alloc ?_ _)); refine blk_put (cs := #[.int .i64 0, .slice none 0 0]) ?_ 0 _ rfl; exact bk_ BK317) NB317_0.out (by simp)); have n3_ := Aside0.mk (KeepBut.trans (by repeat (first | (with_reducible first | exact HK.out | apply KeepBut.set_ | apply keep_drewN | apply keep_drew | apply keep_alloc | refine keep_far ?_ GW310.out _ | refine keep_far ?_ GW317.out _) | exact HK.out)) hk (.inl rfl)); have n4_ := Aside0.mk (hb); have n5_ := Aside0.mk (hi); clear BK310; clear HO314; clear BK317; clear HK; clear HB; clear HI0; have BK310 := n0_; have HO314 := n1_; have BK317 := n2_; have HK := n3_; have HB := n4_; have HI0 := n5_; clear n0_ n1_ n2_ n3_ n4_ n5_; (try clear hb); (try clear hb2); (try clear hk); (try clear hi)) | ((with_reducible refine gate_callee (f := 78) rfl ?_); refine goesL_ (some 11) rfl rfl Try.func78 (by kernel_rfl) rfl #[.pointer (some ⟨g, 0, none⟩)] rfl mt_ ?_; (with_reducible refine (spec_l01Cur_raw.calls g s0_0 t319 t320 t321 t322 t323 w0 _ ?side1 ?side2 A5.out).mono ?_); (case side1 => repeat (first | (with_reducible first | exact HI0.out | apply IsS85.alloc | apply IsS85.drewN | apply IsS85.drew | apply IsS85.set_1 | apply IsS85.set_2 | refine IsS85.far ?_ NB0_310.out _ | refine IsS85.far ?_ NB0_317.out _) | exact HI0.out)); (case side2 => repeat (first | (with_reducible first | exact HB.out | apply below_alloc | apply pw_below_drewN | apply below_drew1 | refine below_set ?_ (IsS85.ge HI0.out) | refine below_set ?_ GE310.out | refine below_set ?_ GE317.out) | exact HB.out)); rintro e w18 ⟨rfl, hi, hb, hk⟩; refine ⟨_, rfl, ?_⟩; have n0_ := Aside0.mk (KeepBut.blk hk (g' := gb310) (o := .cells #[.int .i64 0, .slice none 0 0] 24 (0, 0)) (bk_ BK310) NB310_0.out (by simp)); have n1_ := Aside0.mk (Kd.R_mono (Kd.R_keep (IsS85.apart (show IsS85 w0 _ g s0_0 t319 t320 from by repeat (first | (with_reducible first | exact HI0.out | apply IsS85.alloc | apply IsS85.drewN | apply IsS85.drew | apply IsS85.set_1 | apply IsS85.set_2 | refine IsS85.far ?_ NB0_310.out _ | refine IsS85.far ?_ NB0_317.out _) | exact HI0.out)) (kr_ HO314) (by decide)) hk (fun _ h => h.2)) (fun _ h => h.1)); have n2_ := Aside0.mk (KeepBut.blk hk (g' := gb317) (o := .cells #[.int .i64 t311, .slice Ao16 t312.length co16] 24 (0, 0)) (bk_ BK317) NB317_0.out (by simp)); have n3_ := Aside0.mk (KeepBut.trans (by repeat (first | (with_reducible first | exact HK.out | apply KeepBut.set_ | apply keep_drewN | apply keep_drew | apply keep_alloc | refine keep_far ?_ GW310.out _ | refine keep_far ?_ GW317.out _) | exact HK.out)) hk (.inl rfl)); have n4_ := Aside0.mk (hb); have n5_ := Aside0.mk (hi); clear BK310; clear HO314; clear BK317; clear HK; clear HB; clear HI0; have BK310 := n0_; have HO314 := n1_; have BK317 := n2_; have HK := n3_; have HB := n4_; have HI0 := n5_; clear n0_ n1_ n2_ n3_ n4_ n5_; (try clear hb); (try clear hb2); (try clear hk); (try clear hi)) | ((with_reducible refine gate_callee (f := 77) rfl ?_); refine goesL_ (some 13) rfl rfl Try.func77 (by kernel_rfl) rfl #[.pointer (some ⟨g, 0, none⟩), .int .i64 20] rfl mt_ ?_; (with_reducible refine (spec_l01Cur_pick.calls g s0_0 t322 t323 20 t324 t325 t326 w0 _ ?side1 ?side2 A6.out).mono ?_); (case side1 => repeat (first | (with_reducible first | exact HI0.out | apply IsS85.alloc | apply IsS85.drewN | apply IsS85.drew | apply IsS85.set_1 | apply IsS85.set_2 | refine IsS85.far ?_ NB0_310.out _ | refine IsS85.far ?_ NB0_317.out _) | exact HI0.out)); (case side2 => repeat (first | (with_reducible first | exact HB.out | apply below_alloc | apply pw_below_drewN | apply below_drew1 | refine below_set ?_ (IsS85.ge HI0.out) | refine below_set ?_ GE310.out | refine below_set ?_ GE317.out) | exact HB.out)); rintro e w19 ⟨rfl, hi, hb, hk⟩; refine ⟨_, rfl, ?_⟩; have n0_ := Aside0.mk (KeepBut.blk hk (g' := gb310) (o := .cells #[.int .i64 0, .slice none 0 0] 24 (0, 0)) (bk_ BK310) NB310_0.out (by simp)); have n1_ := Aside0.mk (Kd.R_mono (Kd.R_keep (IsS85.apart (show IsS85 w0 _ g s0_0 t322 t323 from by repeat (first | (with_reducible first | exact HI0.out | apply IsS85.alloc | apply IsS85.drewN | apply IsS85.drew | apply IsS85.set_1 | apply IsS85.set_2 | refine IsS85.far ?_ NB0_310.out _ | refine IsS85.far ?_ NB0_317.out _) | exact HI0.out)) (kr_ HO314) (by decide)) hk (fun _ h => h.2)) (fun _ h => h.1)); have n2_ := Aside0.mk (KeepBut.blk hk (g' := gb317) (o := .cells #[.int .i64 t311, .slice Ao16 t312.length co16] 24 (0, 0)) (bk_ BK317) NB317_0.out (by simp)); have n3_ := Aside0.mk (KeepBut.trans (by repeat (first | (with_reducible first | exact HK.out | apply KeepBut.set_ | apply keep_drewN | apply keep_drew | apply keep_alloc | refine keep_far ?_ GW310.out _ | refine keep_far ?_ GW317.out _) | exact HK.out)) hk (.inl rfl)); have n4_ := Aside0.mk (hb); have n5_ := Aside0.mk (hi); clear BK310; clear HO314; clear BK317; clear HK; clear HB; clear HI0; have BK310 := n0_; have HO314 := n1_; have BK317 := n2_; have HK := n3_; have HB := n4_; have HI0 := n5_; clear n0_ n1_ n2_ n3_ n4_ n5_; (try clear hb); (try clear hb2); (try clear hk); (try clear hi)) | ((with_reducible refine gate_dst (N := 14) rfl ?_); refine Kd.R_lit (Kd.int .i64) _ 3 ?hg (N := 14) ?hd (xs := ([t321, t324] : List Int)) (inner := [.int .i64 t321, .int .i64 t324]) (ok := fun _ => True) (okp := fun _ => True) ?hr ?hp (fun _ hk => by first | exact hk | grind) trivial (Below.refl _ _) (Nat.le_refl _) (by simp) ?_; (case hd => rfl); (case hg => rfl); (case hr => first | (go_simp; done) | (go_simp; rfl)); (case hp => exact (Reps.one (show Kd.M (Kd.int .i64) _ _ _ t321 [.int .i64 t321] from rfl) (Reps.one (show Kd.M (Kd.int .i64) _ _ _ t324 [.int .i64 t324] from rfl) (Reps.none _ _)))); intro v328 w20 ho21 hb hg_ hnew_; clear hg_ hnew_; (first | rw [← Ny327.out] at ho21 | (simp only [Int.reduceToNat] at ho21; rw [← Ny327.out] at ho21)); have n0_ := Aside0.mk (Kd.R_elder' (kr_ HO314) (Kd.R_base ho21) hb); have n1_ := Aside0.mk (Kd.R_lower (Kd.R_new' ho21 (Kd.R_lt (kr_ HO314))) (keep_size (w := w) (g := g) (row := none) (by repeat (first | (with_reducible first | exact HK.out | apply KeepBut.set_ | apply keep_drewN | apply keep_drew | apply keep_alloc | refine keep_far ?_ GW310.out _ | refine keep_far ?_ GW317.out _) | exact HK.out)))); have n2_ := Aside0.mk (IsS85.below (by repeat (first | (with_reducible first | exact HI0.out | apply IsS85.alloc | apply IsS85.drewN | apply IsS85.drew | apply IsS85.set_1 | apply IsS85.set_2 | refine IsS85.far ?_ NB0_310.out _ | refine IsS85.far ?_ NB0_317.out _) | exact HI0.out)) hb); have n3_ := Aside0.mk (blk_below (g := gb310) (o := .cells #[.int .i64 0, .slice none 0 0] 24 (0, 0)) (bk_ BK310) hb); have n4_ := Aside0.mk (blk_below (g := gb317) (o := .cells #[.int .i64 t311, .slice Ao16 t312.length co16] 24 (0, 0)) (bk_ BK317) hb); have n5_ := Aside0.mk (KeepBut.trans (by repeat (first | (with_reducible first | exact HK.out | apply KeepBut.set_ | apply keep_drewN | apply keep_drew | apply keep_alloc | refine keep_far ?_ GW310.out _ | refine keep_far ?_ GW317.out _) | exact HK.out)) (KeepBut.of_below hb g none) (.inl rfl)); have n6_ := Aside0.mk (below_step (by repeat (first | (with_reducible first | exact HB.out | apply below_alloc | apply pw_below_drewN | apply below_drew1 | refine below_set ?_ (IsS85.ge HI0.out) | refine below_set ?_ GE310.out | refine below_set ?_ GE317.out) | exact HB.out)) hb); clear HO314; clear HI0; clear BK310; clear BK317; clear HK; clear HB; have HO314 := n0_; have HO329 := n1_; have HI0 := n2_; have BK310 := n3_; have BK317 := n4_; have HK := n5_; have HB := n6_; clear n0_ n1_ n2_ n3_ n4_ n5_ n6_; clear hb ho21) | ((with_reducible refine gate_callee (f := 77) rfl ?_); refine goesL_ (some 16) rfl rfl Try.func77 (by kernel_rfl) rfl #[.pointer (some ⟨g, 0, none⟩), .int .i64 2] rfl mt_ ?_; (with_reducible refine (spec_l01Cur_pick.calls g s0_0 t325 t326 2 t330 t331 t332 w0 _ ?side1 ?side2 A7.out).mono ?_); (case side1 => repeat (first | (with_reducible first | exact HI0.out | apply IsS85.alloc | apply IsS85.drewN | apply IsS85.drew | apply IsS85.set_1 | apply IsS85.set_2 | refine IsS85.far ?_ NB0_310.out _ | refine IsS85.far ?_ NB0_317.out _) | exact HI0.out)); (case side2 => repeat (first | (with_reducible first | exact HB.out | apply below_alloc | apply pw_below_drewN | apply below_drew1 | refine below_set ?_ (IsS85.ge HI0.out) | refine below_set ?_ GE310.out | refine below_set ?_ GE317.out) | exact HB.out)); rintro e w22 ⟨rfl, hi, hb, hk⟩; refine ⟨_, rfl, ?_⟩; have n0_ := Aside0.mk (KeepBut.blk hk (g' := gb310) (o := .cells #[.int .i64 0, .slice none 0 0] 24 (0, 0)) (bk_ BK310) NB310_0.out (by simp)); have n1_ := Aside0.mk (Kd.R_mono (Kd.R_keep (IsS85.apart (show IsS85 w0 _ g s0_0 t325 t326 from by repeat (first | (with_reducible first | exact HI0.out | apply IsS85.alloc | apply IsS85.drewN | apply IsS85.drew | apply IsS85.set_1 | apply IsS85.set_2 | refine IsS85.far ?_ NB0_310.out _ | refine IsS85.far ?_ NB0_317.out _) | exact HI0.out)) (kr_ HO314) (by decide)) hk (fun _ h => h.2)) (fun _ h => h.1)); have n2_ := Aside0.mk (KeepBut.blk hk (g' := gb317) (o := .cells #[.int .i64 t311, .slice Ao16 t312.length co16] 24 (0, 0)) (bk_ BK317) NB317_0.out (by simp)); have n3_ := Aside0.mk (Kd.R_mono (Kd.R_keep (IsS85.apart (show IsS85 w0 _ g s0_0 t325 t326 from by repeat (first | (with_reducible first | exact HI0.out | apply IsS85.alloc | apply IsS85.drewN | apply IsS85.drew | apply IsS85.set_1 | apply IsS85.set_2 | refine IsS85.far ?_ NB0_310.out _ | refine IsS85.far ?_ NB0_317.out _) | exact HI0.out)) (kr_ HO329) (by decide)) hk (fun _ h => h.2)) (fun _ h => h.1)); have n4_ := Aside0.mk (KeepBut.trans (by repeat (first | (with_reducible first | exact HK.out | apply KeepBut.set_ | apply keep_drewN | apply keep_drew | apply keep_alloc | refine keep_far ?_ GW310.out _ | refine keep_far ?_ GW317.out _) | exact HK.out)) hk (.inl rfl)); have n5_ := Aside0.mk (hb); have n6_ := Aside0.mk (hi); clear BK310; clear HO314; clear BK317; clear HO329; clear HK; clear HB; clear HI0; have BK310 := n0_; have HO314 := n1_; have BK317 := n2_; have HO329 := n3_; have HK := n4_; have HB := n5_; have HI0 := n6_; clear n0_ n1_ n2_ n3_ n4_ n5_ n6_; (try clear hb); (try clear hb2); (try clear hk); (try clear hi); obtain ⟨Ao23, co23, eo23⟩ := Kd.R_slice HO329.out; subst eo23; have p333 : 0 ≤ (t330 : Int) := of_decide_eq_true (by first | (with_reducible assumption) | assumption); have q333 : t330 < (y327.length : Int) := of_decide_eq_true (by first | (with_reducible assumption) | assumption); obtain ⟨ad333, e333, hx333_0⟩ := Kd.at_int (Kd.R_reads' HO329.out).2.2 t330 p333 q333; cases e333; replace p333 := eq_true p333; replace q333 := eq_true q333; have hcz24_0 : w22.cell? ⟨gb317, 0, none⟩ = some (.int .i64 t311) := (blk_cell BK317.out 0).trans rfl; have hcz24_1 : w22.cell? ⟨gb317, 1, none⟩ = some (.slice Ao16 t312.length co16) := (blk_cell BK317.out 1).trans rfl; have hfz24_0 := blk_frozen BK317.out 0; have hfz24_1 := blk_frozen BK317.out 1; have hnb25 := NB310_0.out; have hnc25 := NB0_310.out; have hcz26_0 : w22.cell? ⟨gb310, 0, none⟩ = some (.int .i64 0) := (blk_cell BK310.out 0).trans rfl; have hcz26_1 : w22.cell? ⟨gb310, 1, none⟩ = some (.slice none 0 0) := (blk_cell BK310.out 1).trans rfl; have hfz26_0 := blk_frozen BK310.out 0; have hfz26_1 := blk_frozen BK310.out 1))
    refine bodyPost_ret (results_cell_row rfl _ _ gb310 24 #[.int .i64 (rd y327 t330), .slice Ao16 t312.length co16] (0, 0) _ rfl (by (with_reducible repeat (first | refine blk_drewN ?_ _ | refine blk_drew ?_ | refine blk_alloc ?_ _)); refine blk_put (cs := #[.int .i64 (rd y327 t330), .slice none 0 0]) ?_ 1 _ rfl; (with_reducible repeat (first | refine blk_drewN ?_ _ | refine blk_drew ?_ | refine blk_alloc ?_ _)); refine blk_put (cs := #[.int .i64 0, .slice none 0 0]) ?_ 0 _ rfl; (with_reducible repeat (first | refine blk_drewN ?_ _ | refine blk_drew ?_ | refine blk_alloc ?_ _)); refine blk_far ?_ NB310_317.out _; exact bk_ BK310) Try.underlying24 rfl (by kernel_rfl)) rfl ?_
    exact ⟨_, by first | rfl | (simp [errW_none, errW_some] <;> rfl) | (simp [*, errW_none, errW_some] <;> rfl), by (with_reducible repeat (first | apply Kd.R_alloc | apply Kd.R_drewN | apply Kd.R_drew)); exact Kd.R_mono (Kd.R_far (p := ⟨gb310, 1, none⟩) (Kd.R_far (p := ⟨gb310, 0, none⟩) (Kd.R_far (p := ⟨gb317, 0, none⟩) (Kd.R_types (Kd.R_types HO314.out BK317.out (by decide)) BK310.out (by decide)) (fun _ hk => by first | exact hk.1.2 | grind) (.int .i64 (rd y327 t330))) (fun _ hk => by first | exact hk.2 | grind) (.int .i64 (rd y327 t330))) (fun _ hk => by first | exact hk.2 | grind) (.slice Ao16 t312.length co16)) (fun _ hk => by first | exact trivial | grind), by repeat (first | (with_reducible first | exact HI0.out | apply IsS85.alloc | apply IsS85.drewN | apply IsS85.drew | apply IsS85.set_1 | apply IsS85.set_2 | refine IsS85.far ?_ NB0_310.out _ | refine IsS85.far ?_ NB0_317.out _) | exact HI0.out), by repeat (first | (with_reducible first | exact HB.out | apply below_alloc | apply pw_below_drewN | apply below_drew1 | refine below_set ?_ (IsS85.ge HI0.out) | refine below_set ?_ GE310.out | refine below_set ?_ GE317.out) | exact HB.out), by repeat (first | (with_reducible first | exact HK.out | apply KeepBut.set_ | apply keep_drewN | apply keep_drew | apply keep_alloc | refine keep_far ?_ GW310.out _ | refine keep_far ?_ GW317.out _) | exact HK.out)⟩
   ·rw [if_neg c9] at H
    exact absurd H (by simp)
  ·rw [if_neg c8] at H
   exact absurd H (by simp)
 ·rw [if_neg c4] at H
  have c4b0 : (t318 == 0) = false := beq_eq_false_iff_ne.mpr c4
  have c4b1 : (t318 != 0) = true := bne_iff_ne.mpr c4
  by_cases c27 : t318 = 1
  ·rw [if_pos c27] at H
   have c27b0 : (t318 == 1) = true := beq_iff_eq.mpr c27
   have c27b1 : (t318 != 1) = false := bne_eq_false_iff_eq.mpr c27
   clear c27
   by_cases c28 : (t312.length : Int) > 0
   ·rw [if_pos c28] at H
    have c28b0 : decide (0 < (t312.length : Int)) = true := decide_eq_true c28
    have c28b1 : decide (0 < t312.length) = true := decide_eq_true (by omega)
    clear c28
    replace H := Option.bind_eq_some_iff.mp H
    obtain ⟨⟨t334, t335, t336⟩, A290, H⟩ := H
    replace H : ((spec_l01Cur_pick.f s0_0 t335 t336 (t312.length : Int)).bind fun bt337 => ((spec_l01Cur_raw.f s0_0 bt337.2.1 bt337.2.2).bind fun bt340 => ((some (([bt337.1, bt340.1, (-1)] : List Int) : List Int)).bind fun y343 => ((spec_l01Cur_pick.f s0_0 bt340.2.1 bt340.2.2 3).bind fun bt346 => (if 0 ≤ bt346.1 then (if bt346.1 < (y343.length : Int) then (if 0 ≤ t334 then (if t334 < (t312.length : Int) then (some (t311, (t312.set (t334 : Int).toNat (rd y343 bt346.1)), bt346.2.1, bt346.2.2)) else (none)) else (none)) else (none)) else (none)))))) = some (r1, r2, r3, r4) := H
    have A29 := Aside0.mk A290
    clear A290
    replace H := Option.bind_eq_some_iff.mp H
    obtain ⟨⟨t337, t338, t339⟩, A300, H⟩ := H
    replace H : ((spec_l01Cur_raw.f s0_0 t338 t339).bind fun bt340 => ((some (([t337, bt340.1, (-1)] : List Int) : List Int)).bind fun y343 => ((spec_l01Cur_pick.f s0_0 bt340.2.1 bt340.2.2 3).bind fun bt346 => (if 0 ≤ bt346.1 then (if bt346.1 < (y343.length : Int) then (if 0 ≤ t334 then (if t334 < (t312.length : Int) then (some (t311, (t312.set (t334 : Int).toNat (rd y343 bt346.1)), bt346.2.1, bt346.2.2)) else (none)) else (none)) else (none)) else (none))))) = some (r1, r2, r3, r4) := H
    have A30 := Aside0.mk A300
    clear A300
    replace H := Option.bind_eq_some_iff.mp H
    obtain ⟨⟨t340, t341, t342⟩, A310, H⟩ := H
    replace H : ((some (([t337, t340, (-1)] : List Int) : List Int)).bind fun y343 => ((spec_l01Cur_pick.f s0_0 t341 t342 3).bind fun bt346 => (if 0 ≤ bt346.1 then (if bt346.1 < (y343.length : Int) then (if 0 ≤ t334 then (if t334 < (t312.length : Int) then (some (t311, (t312.set (t334 : Int).toNat (rd y343 bt346.1)), bt346.2.1, bt346.2.2)) else (none)) else (none)) else (none)) else (none)))) = some (r1, r2, r3, r4) := H
    have A31 := Aside0.mk A310
    clear A310
    obtain ⟨y343, hy343⟩ : ∃ y_ : List Int, y_ = (([t337, t340, (-1)] : List Int)) := ⟨_, rfl⟩
    replace H : ((spec_l01Cur_pick.f s0_0 t341 t342 3).bind fun bt346 => (if 0 ≤ bt346.1 then (if bt346.1 < (y343.length : Int) then (if 0 ≤ t334 then (if t334 < (t312.length : Int) then (some (t311, (t312.set (t334 : Int).toNat (rd y343 bt346.1)), bt346.2.1, bt346.2.2)) else (none)) else (none)) else (none)) else (none))) = some (r1, r2, r3, r4) := by first | (rw [hy343]; with_reducible exact H) | (have H2_ := (Option.bind_some _ _).symm.trans H; rw [hy343]; with_reducible exact H2_) | (have H2_ := (Option.bind_some _ _).symm.trans H; with_reducible exact H2_) | with_reducible exact H | (rw [hy343]; exact H) | exact H
    have Ny343 := Aside0.mk hy343
    clear hy343
    replace H := Option.bind_eq_some_iff.mp H
    obtain ⟨⟨t346, t347, t348⟩, A320, H⟩ := H
    replace H : (if 0 ≤ t346 then (if t346 < (y343.length : Int) then (if 0 ≤ t334 then (if t334 < (t312.length : Int) then (some (t311, (t312.set (t334 : Int).toNat (rd y343 t346)), t347, t348)) else (none)) else (none)) else (none)) else (none)) = some (r1, r2, r3, r4) := H
    have A32 := Aside0.mk A320
    clear A320
    by_cases c33 : 0 ≤ t346
    ·rw [if_pos c33] at H
     have c33b0 : decide (0 ≤ t346) = true := decide_eq_true c33
     clear c33
     by_cases c34 : t346 < (y343.length : Int)
     ·rw [if_pos c34] at H
      have c34b0 : decide (t346 < (y343.length : Int)) = true := decide_eq_true c34
      clear c34
      by_cases c35 : 0 ≤ t334
      ·rw [if_pos c35] at H
       have c35b0 : decide (0 ≤ t334) = true := decide_eq_true c35
       clear c35
       by_cases c36 : t334 < (t312.length : Int)
       ·rw [if_pos c36] at H
        have c36b0 : decide (t334 < (t312.length : Int)) = true := decide_eq_true c36
        clear c36
        obtain ⟨y350, hy350⟩ : ∃ y_ : List Int, y_ = (t312.set (t334 : Int).toNat (rd y343 t346)) := ⟨_, rfl⟩
        replace H : (some (t311, y350, t347, t348)) = some (r1, r2, r3, r4) := by first | (rw [hy350]; with_reducible exact H) | (have H2_ := (Option.bind_some _ _).symm.trans H; rw [hy350]; with_reducible exact H2_) | (have H2_ := (Option.bind_some _ _).symm.trans H; with_reducible exact H2_) | with_reducible exact H | (rw [hy350]; exact H) | exact H
        have Ny350 := Aside0.mk hy350
        clear hy350
        simp only [Option.some.injEq, Prod.mk.injEq] at H
        obtain ⟨rfl, rfl, rfl, rfl⟩ := H
        go_enter Try.func76, Try.ntmps76
        try go_wp2_with (first | ((with_reducible refine gate_dst (N := 2) rfl ?_); refine box_event ?hg (N := 2) ?hd (cs := #[.int .i64 0, .slice none 0 0]) (t := 24) ?hr ?_; (case hd => rfl); (case hg => rfl); (case hr => first | (go_simp; done) | (go_simp; rfl)); intro gb310 hg w38 hbox hb; have n0_ := Aside0.mk (IsS85.below (by repeat (first | (with_reducible first | exact HI0.out | apply IsS85.alloc | apply IsS85.drewN | apply IsS85.drew | apply IsS85.set_1 | apply IsS85.set_2) | exact HI0.out)) hb); have n1_ := Aside0.mk (KeepBut.trans (by repeat (first | (with_reducible first | exact HK.out | apply KeepBut.set_ | apply keep_drewN | apply keep_drew | apply keep_alloc) | exact HK.out)) (KeepBut.of_below hb g none) (.inl rfl)); have n2_ := Aside0.mk (below_step (by repeat (first | (with_reducible first | exact HB.out | apply below_alloc | apply pw_below_drewN | apply below_drew1 | refine below_set ?_ (IsS85.ge HI0.out)) | exact HB.out)) hb); have n3_ := Aside0.mk (hbox); have n4_ := Aside0.mk ((by rw [hg]; exact (keep_size (w := w) (g := g) (row := none) (by repeat (first | (with_reducible first | exact HK.out | apply KeepBut.set_ | apply keep_drewN | apply keep_drew | apply keep_alloc) | exact HK.out))) : w.heap.size ≤ gb310)); have n5_ := Aside0.mk ((Nat.le_trans HW0.out (by rw [hg]; exact (keep_size (w := w) (g := g) (row := none) (by repeat (first | (with_reducible first | exact HK.out | apply KeepBut.set_ | apply keep_drewN | apply keep_drew | apply keep_alloc) | exact HK.out))) : w.heap.size ≤ gb310) : w0.heap.size ≤ gb310)); have n6_ := Aside0.mk ((by rw [hg]; exact Nat.ne_of_lt (IsS85.lt (show IsS85 w0 _ g s0_0 s0_1 s0_2 from by repeat (first | (with_reducible first | exact HI0.out | apply IsS85.alloc | apply IsS85.drewN | apply IsS85.drew | apply IsS85.set_1 | apply IsS85.set_2) | exact HI0.out))) : g ≠ gb310)); have n7_ := Aside0.mk ((by rw [hg]; exact Nat.ne_of_gt (IsS85.lt (show IsS85 w0 _ g s0_0 s0_1 s0_2 from by repeat (first | (with_reducible first | exact HI0.out | apply IsS85.alloc | apply IsS85.drewN | apply IsS85.drew | apply IsS85.set_1 | apply IsS85.set_2) | exact HI0.out))) : gb310 ≠ g)); clear HI0; clear HK; clear HB; have HI0 := n0_; have HK := n1_; have HB := n2_; have BK310 := n3_; have GW310 := n4_; have GE310 := n5_; have NB0_310 := n6_; have NB310_0 := n7_; clear n0_ n1_ n2_ n3_ n4_ n5_ n6_ n7_; clear hb hbox hg) | ((with_reducible refine gate_callee (f := 82) rfl ?_); refine goesL_ (some 5) rfl rfl Try.func82 (by kernel_rfl) rfl #[.pointer (some ⟨g, 0, none⟩)] rfl mt_ ?_; (with_reducible refine (spec_l01Cur_slab.calls k g s0_0 s0_1 s0_2 t311 t312 t315 t316 w0 _ ?side1 ?side2 A2.out).mono ?_); (case side1 => repeat (first | (with_reducible first | exact HI0.out | apply IsS85.alloc | apply IsS85.drewN | apply IsS85.drew | apply IsS85.set_1 | apply IsS85.set_2 | refine IsS85.far ?_ NB0_310.out _) | exact HI0.out)); (case side2 => repeat (first | (with_reducible first | exact HB.out | apply below_alloc | apply pw_below_drewN | apply below_drew1 | refine below_set ?_ (IsS85.ge HI0.out) | refine below_set ?_ GE310.out) | exact HB.out)); rintro e w39 ⟨v313, rfl, ho0, hi, hb, hk⟩; refine ⟨_, rfl, ?_⟩; have n0_ := Aside0.mk (KeepBut.blk hk (g' := gb310) (o := .cells #[.int .i64 0, .slice none 0 0] 24 (0, 0)) (bk_ BK310) NB310_0.out (by simp)); have n1_ := Aside0.mk (Kd.R_lower ho0 (keep_size (w := w) (g := g) (row := none) (by repeat (first | (with_reducible first | exact HK.out | apply KeepBut.set_ | apply keep_drewN | apply keep_drew | apply keep_alloc | refine keep_far ?_ GW310.out _) | exact HK.out)))); have n2_ := Aside0.mk (KeepBut.trans (by repeat (first | (with_reducible first | exact HK.out | apply KeepBut.set_ | apply keep_drewN | apply keep_drew | apply keep_alloc | refine keep_far ?_ GW310.out _) | exact HK.out)) hk (.inl rfl)); have n3_ := Aside0.mk (hb); have n4_ := Aside0.mk (hi); clear BK310; clear HK; clear HB; clear HI0; have BK310 := n0_; have HO314 := n1_; have HK := n2_; have HB := n3_; have HI0 := n4_; clear n0_ n1_ n2_ n3_ n4_; (try clear hb); (try clear hb2); (try clear hk); (try clear hi); (try clear ho0)) | ((with_reducible refine gate_dst (N := 3) rfl ?_); refine box_event ?hg (N := 3) ?hd (cs := #[.int .i64 0, .slice none 0 0]) (t := 24) ?hr ?_; (case hd => rfl); (case hg => rfl); (case hr => first | (go_simp; done) | (go_simp; rfl)); intro gb317 hg w40 hbox hb; have n0_ := Aside0.mk (Kd.R_below (kr_ HO314) hb); have n1_ := Aside0.mk (IsS85.below (by repeat (first | (with_reducible first | exact HI0.out | apply IsS85.alloc | apply IsS85.drewN | apply IsS85.drew | apply IsS85.set_1 | apply IsS85.set_2 | refine IsS85.far ?_ NB0_310.out _) | exact HI0.out)) hb); have n2_ := Aside0.mk (blk_below (g := gb310) (o := .cells #[.int .i64 0, .slice none 0 0] 24 (0, 0)) (bk_ BK310) hb); have n3_ := Aside0.mk (KeepBut.trans (by repeat (first | (with_reducible first | exact HK.out | apply KeepBut.set_ | apply keep_drewN | apply keep_drew | apply keep_alloc | refine keep_far ?_ GW310.out _) | exact HK.out)) (KeepBut.of_below hb g none) (.inl rfl)); have n4_ := Aside0.mk (below_step (by repeat (first | (with_reducible first | exact HB.out | apply below_alloc | apply pw_below_drewN | apply below_drew1 | refine below_set ?_ (IsS85.ge HI0.out) | refine below_set ?_ GE310.out) | exact HB.out)) hb); have n5_ := Aside0.mk (hbox); have n6_ := Aside0.mk ((by rw [hg]; exact (keep_size (w := w) (g := g) (row := none) (by repeat (first | (with_reducible first | exact HK.out | apply KeepBut.set_ | apply keep_drewN | apply keep_drew | apply keep_alloc | refine keep_far ?_ GW310.out _) | exact HK.out))) : w.heap.size ≤ gb317)); have n7_ := Aside0.mk ((Nat.le_trans HW0.out (by rw [hg]; exact (keep_size (w := w) (g := g) (row := none) (by repeat (first | (with_reducible first | exact HK.out | apply KeepBut.set_ | apply keep_drewN | apply keep_drew | apply keep_alloc | refine keep_far ?_ GW310.out _) | exact HK.out))) : w.heap.size ≤ gb317) : w0.heap.size ≤ gb317)); have n8_ := Aside0.mk ((by rw [hg]; exact Nat.ne_of_lt (blk_lt (g := gb310) (o := .cells #[.int .i64 0, .slice none 0 0] 24 (0, 0)) (bk_ BK310)) : gb310 ≠ gb317)); have n9_ := Aside0.mk ((by rw [hg]; exact Nat.ne_of_gt (blk_lt (g := gb310) (o := .cells #[.int .i64 0, .slice none 0 0] 24 (0, 0)) (bk_ BK310)) : gb317 ≠ gb310)); have n10_ := Aside0.mk ((by rw [hg]; exact Nat.ne_of_lt (IsS85.lt (show IsS85 w0 _ g s0_0 t315 t316 from by repeat (first | (with_reducible first | exact HI0.out | apply IsS85.alloc | apply IsS85.drewN | apply IsS85.drew | apply IsS85.set_1 | apply IsS85.set_2 | refine IsS85.far ?_ NB0_310.out _) | exact HI0.out))) : g ≠ gb317)); have n11_ := Aside0.mk ((by rw [hg]; exact Nat.ne_of_gt (IsS85.lt (show IsS85 w0 _ g s0_0 t315 t316 from by repeat (first | (with_reducible first | exact HI0.out | apply IsS85.alloc | apply IsS85.drewN | apply IsS85.drew | apply IsS85.set_1 | apply IsS85.set_2 | refine IsS85.far ?_ NB0_310.out _) | exact HI0.out))) : gb317 ≠ g)); clear HO314; clear HI0; clear BK310; clear HK; clear HB; have HO314 := n0_; have HI0 := n1_; have BK310 := n2_; have HK := n3_; have HB := n4_; have BK317 := n5_; have GW317 := n6_; have GE317 := n7_; have NB310_317 := n8_; have NB317_310 := n9_; have NB0_317 := n10_; have NB317_0 := n11_; clear n0_ n1_ n2_ n3_ n4_ n5_ n6_ n7_ n8_ n9_ n10_ n11_; clear hb hbox hg; have hnb41 := NB317_310.out; have hnc41 := NB310_317.out; have hnb42 := NB317_0.out; have hnc42 := NB0_317.out; have hcz43_0 : w40.cell? ⟨gb317, 0, none⟩ = some (.int .i64 0) := (blk_cell BK317.out 0).trans rfl; have hcz43_1 : w40.cell? ⟨gb317, 1, none⟩ = some (.slice none 0 0) := (blk_cell BK317.out 1).trans rfl; have hfz43_0 := blk_frozen BK317.out 0; have hfz43_1 := blk_frozen BK317.out 1; obtain ⟨Ao44, co44, eo44⟩ := Kd.R_slice HO314.out; subst eo44) | ((with_reducible refine gate_callee (f := 77) rfl ?_); refine goesL_ (some 7) rfl rfl Try.func77 (by kernel_rfl) rfl #[.pointer (some ⟨g, 0, none⟩), .int .i64 12] rfl mt_ ?_; (with_reducible refine (spec_l01Cur_pick.calls g s0_0 t315 t316 12 t318 t319 t320 w0 _ ?side1 ?side2 A3.out).mono ?_); (case side1 => repeat (first | (with_reducible first | exact HI0.out | apply IsS85.alloc | apply IsS85.drewN | apply IsS85.drew | apply IsS85.set_1 | apply IsS85.set_2 | refine IsS85.far ?_ NB0_310.out _ | refine IsS85.far ?_ NB0_317.out _) | exact HI0.out)); (case side2 => repeat (first | (with_reducible first | exact HB.out | apply below_alloc | apply pw_below_drewN | apply below_drew1 | refine below_set ?_ (IsS85.ge HI0.out) | refine below_set ?_ GE310.out | refine below_set ?_ GE317.out) | exact HB.out)); rintro e w45 ⟨rfl, hi, hb, hk⟩; refine ⟨_, rfl, ?_⟩; have n0_ := Aside0.mk (KeepBut.blk hk (g' := gb310) (o := .cells #[.int .i64 0, .slice none 0 0] 24 (0, 0)) (by (with_reducible repeat (first | refine blk_drewN ?_ _ | refine blk_drew ?_ | refine blk_alloc ?_ _)); refine blk_far ?_ NB310_317.out _; (with_reducible repeat (first | refine blk_drewN ?_ _ | refine blk_drew ?_ | refine blk_alloc ?_ _)); refine blk_far ?_ NB310_317.out _; exact bk_ BK310) NB310_0.out (by simp)); have n1_ := Aside0.mk (Kd.R_mono (Kd.R_keep (IsS85.apart (show IsS85 w0 _ g s0_0 t315 t316 from by repeat (first | (with_reducible first | exact HI0.out | apply IsS85.alloc | apply IsS85.drewN | apply IsS85.drew | apply IsS85.set_1 | apply IsS85.set_2 | refine IsS85.far ?_ NB0_310.out _ | refine IsS85.far ?_ NB0_317.out _) | exact HI0.out)) (by (with_reducible repeat (first | apply Kd.R_alloc | apply Kd.R_drewN | apply Kd.R_drew)); exact (Kd.R_mono (Kd.R_far (p := ⟨gb317, 1, none⟩) (Kd.R_far (p := ⟨gb317, 0, none⟩) (Kd.R_types HO314.out BK317.out (by decide)) (fun _ hk => by first | exact hk.2 | grind) (.int .i64 t311)) (fun _ hk => by first | exact hk.2 | grind) (.slice Ao44 t312.length co44)) (fun _ h_ => h_.1))) (by decide)) hk (fun _ h => h.2)) (fun _ h => h.1)); have n2_ := Aside0.mk (KeepBut.blk hk (g' := gb317) (o := .cells #[.int .i64 t311, .slice Ao44 t312.length co44] 24 (0, 0)) (by (with_reducible repeat (first | refine blk_drewN ?_ _ | refine blk_drew ?_ | refine blk_alloc ?_ _)); refine blk_put (cs := #[.int .i64 t311, .slice none 0 0]) ?_ 1 _ rfl; (with_reducible repeat (first | refine blk_drewN ?_ _ | refine blk_drew ?_ | refine blk_alloc ?_ _)); refine blk_put (cs := #[.int .i64 0, .slice none 0 0]) ?_ 0 _ rfl; exact bk_ BK317) NB317_0.out (by simp)); have n3_ := Aside0.mk (KeepBut.trans (by repeat (first | (with_reducible first | exact HK.out | apply KeepBut.set_ | apply keep_drewN | apply keep_drew | apply keep_alloc | refine keep_far ?_ GW310.out _ | refine keep_far ?_ GW317.out _) | exact HK.out)) hk (.inl rfl)); have n4_ := Aside0.mk (hb); have n5_ := Aside0.mk (hi); clear BK310; clear HO314; clear BK317; clear HK; clear HB; clear HI0; have BK310 := n0_; have HO314 := n1_; have BK317 := n2_; have HK := n3_; have HB := n4_; have HI0 := n5_; clear n0_ n1_ n2_ n3_ n4_ n5_; (try clear hb); (try clear hb2); (try clear hk); (try clear hi); have hcz46_0 : w45.cell? ⟨gb317, 0, none⟩ = some (.int .i64 t311) := (blk_cell BK317.out 0).trans rfl; have hcz46_1 : w45.cell? ⟨gb317, 1, none⟩ = some (.slice Ao44 t312.length co44) := (blk_cell BK317.out 1).trans rfl; have hfz46_0 := blk_frozen BK317.out 0; have hfz46_1 := blk_frozen BK317.out 1))
        have pi349 : (0 ≤ (t346 : Int)) = True := eq_true (of_decide_eq_true (by first | (with_reducible assumption) | assumption))
        have qi349 : (t346 < (y343.length : Int)) = True := eq_true (of_decide_eq_true (by first | (with_reducible assumption) | assumption))
        have n0_ := Aside0.mk (Kd.R_drew HO314.out)
        have n1_ := Aside0.mk (blk_drew BK310.out)
        have n2_ := Aside0.mk (blk_drew BK317.out)
        have n3_ := Aside0.mk (IsS85.drew HI0.out)
        have n4_ := Aside0.mk (keep_drew HK.out)
        have n5_ := Aside0.mk (below_drew1 HB.out)
        clear HO314
        clear BK310
        clear BK317
        clear HI0
        clear HK
        clear HB
        have HO314 := n0_
        have BK310 := n1_
        have BK317 := n2_
        have HI0 := n3_
        have HK := n4_
        have HB := n5_
        clear n0_ n1_ n2_ n3_ n4_ n5_
        refine start_ (n := 21) (S := fun w' => w'.cell? ⟨gb317, 0, none⟩ = some (.int .i64 t311) ∧ w'.cell? ⟨gb317, 1, none⟩ = some (.slice Ao44 t312.length co44)) (ds := [20]) (bs 21 0) (by kernel_rfl) rfl rfl ⟨(blk_cell BK317.out 0).trans rfl, (blk_cell BK317.out 1).trans rfl⟩ (fun hHeld => ?_); refine with_tabW spec_l01Cur_badSlab.tab7 spec_l01Cur_badSlab.bits7 (fun HT_ HW_ => ?_)
        generalize w45.drew = w47 at HO314 BK310 BK317 HI0 HK HB hHeld ⊢
        refine pure_s (i := 0) (N := some 26) (bs 21 1) (any_of HT_.out (by kernel_rfl)) (h := ?_)
        refine pure_s (i := 2) (N := some 28) #[oT,oF,oT,oF,oF,oF,oF,oF,oF,oF,oF,oF,oF,oF,oF,oF,oF,oF,oF,oF,oF] (any_of HT_.out (by kernel_rfl)) (h := ?_)
        refine pure_s (i := 3) (N := some 29) #[oT,oF,oT,oT,oF,oF,oF,oF,oF,oF,oF,oF,oF,oF,oF,oF,oF,oF,oF,oF,oF] (any_of HT_.out (by kernel_rfl)) (h := ?_)
        refine pure_s (i := 7) (N := some 33) #[oT,oF,oT,oT,oF,oF,oF,oT,oF,oF,oF,oF,oF,oF,oF,oF,oF,oF,oF,oF,oF] (any_of HT_.out (by kernel_rfl)) (h := ?_)
        refine pure_s (i := 8) (N := some 34) #[oT,oF,oT,oT,oF,oF,oF,oT,oT,oF,oF,oF,oF,oF,oF,oF,oF,oF,oF,oF,oF] (any_of HT_.out (by kernel_rfl)) (h := ?_)
        refine pure_s (i := 12) (N := some 38) #[oT,oF,oT,oT,oF,oF,oF,oT,oT,oF,oF,oF,oT,oF,oF,oF,oF,oF,oF,oF,oF] (any_of HT_.out (by kernel_rfl)) (h := ?_)
        refine pure_s (i := 15) (N := some 41) #[oT,oF,oT,oT,oF,oF,oF,oT,oT,oF,oF,oF,oT,oF,oF,oT,oF,oF,oF,oF,oF] (any_of HT_.out (by kernel_rfl)) (h := ?_)
        refine take_ (i := 1) (N := some 27) (v := ?_) (a' := ?_) #[oT,oT,oT,oT,oF,oF,oF,oT,oT,oF,oF,oF,oT,oF,oF,oT,oF,oF,oF,oF,oF] rfl rfl (take_ofW HT_.out HW_.out (by kernel_rfl)) (fun _ _ _ h => h) (Or.inl ⟨by rfl, ?_⟩) hHeld ?_ ?_
        rotate_left
        ·rintro w' ⟨s0, s1⟩
         go_simp
         with_reducible rfl
        rotate_left
        ·simp only [Act.put, List.setIfInBounds_toArray, List.set_cons_zero, List.set_cons_succ, i64_w, i32_w]
         rfl
        refine take_ (i := 4) (N := some 30) (v := ?_) (a' := ?_) #[oT,oT,oT,oT,oT,oF,oF,oT,oT,oF,oF,oF,oT,oF,oF,oT,oF,oF,oF,oF,oF] rfl rfl (take_ofW HT_.out HW_.out (by kernel_rfl)) (fun _ _ _ h => h) (Or.inl ⟨by rfl, ?_⟩) hHeld ?_ ?_
        rotate_left
        ·rintro w' ⟨s0, s1⟩
         go_simp
         with_reducible rfl
        rotate_left
        ·simp only [Act.put, List.setIfInBounds_toArray, List.set_cons_zero, List.set_cons_succ, i64_w, i32_w]
         rfl
        refine pure_s (i := 5) (N := some 31) #[oT,oT,oT,oT,oT,oT,oF,oT,oT,oF,oF,oF,oT,oF,oF,oT,oF,oF,oF,oF,oF] (any_of HT_.out (by kernel_rfl)) (h := ?_)
        refine take_ (i := 9) (N := some 35) (v := ?_) (a' := ?_) #[oT,oT,oT,oT,oT,oT,oF,oT,oT,oT,oF,oF,oT,oF,oF,oT,oF,oF,oF,oF,oF] rfl rfl (take_ofW HT_.out HW_.out (by kernel_rfl)) (fun _ _ _ h => h) (Or.inl ⟨by rfl, ?_⟩) hHeld ?_ ?_
        rotate_left
        ·rintro w' ⟨s0, s1⟩
         go_simp
         with_reducible rfl
        rotate_left
        ·simp only [Act.put, List.setIfInBounds_toArray, List.set_cons_zero, List.set_cons_succ, i64_w, i32_w]
         rfl
        refine pure_s (i := 10) (N := some 36) #[oT,oT,oT,oT,oT,oT,oF,oT,oT,oT,oT,oF,oT,oF,oF,oT,oF,oF,oF,oF,oF] (any_of HT_.out (by kernel_rfl)) (h := ?_)
        refine one_ (i := 6) (N := some 32) #[oT,oT,oT,oT,oT,oT,oT,oT,oT,oT,oT,oF,oT,oF,oF,oT,oF,oF,oF,oF,oF] rfl rfl (one_of HT_.out (by kernel_rfl)) (by decide) (fun K hK => ?_)
        refine goes_ Try.func77 (by kernel_rfl) rfl #[.pointer (some ⟨g, 0, none⟩), .int .i64 (t312.length : Int)] (by rfl) rfl rfl mt_ ?_
        with_reducible refine (spec_l01Cur_pick.calls g s0_0 t319 t320 (t312.length : Int) t334 t335 t336 w0 _ ?side1 ?side2 A29.out).mono ?_
        (case side1 => repeat (first | (with_reducible first | exact HI0.out | apply IsS85.alloc | apply IsS85.drewN | apply IsS85.drew | apply IsS85.set_1 | apply IsS85.set_2 | refine IsS85.far ?_ NB0_310.out _ | refine IsS85.far ?_ NB0_317.out _) | exact HI0.out))
        (case side2 => repeat (first | (with_reducible first | exact HB.out | apply below_alloc | apply pw_below_drewN | apply below_drew1 | refine below_set ?_ (IsS85.ge HI0.out) | refine below_set ?_ GE310.out | refine below_set ?_ GE317.out) | exact HB.out))
        rintro e w48 ⟨rfl, hi, hb, hk⟩
        refine ⟨_, rfl, ?_⟩
        have n0_ := Aside0.mk (KeepBut.blk hk (g' := gb310) (o := .cells #[.int .i64 0, .slice none 0 0] 24 (0, 0)) (bk_ BK310) NB310_0.out (by simp))
        have n1_ := Aside0.mk (Kd.R_mono (Kd.R_keep (IsS85.apart (show IsS85 w0 _ g s0_0 t319 t320 from by repeat (first | (with_reducible first | exact HI0.out | apply IsS85.alloc | apply IsS85.drewN | apply IsS85.drew | apply IsS85.set_1 | apply IsS85.set_2 | refine IsS85.far ?_ NB0_310.out _ | refine IsS85.far ?_ NB0_317.out _) | exact HI0.out)) (kr_ HO314) (by decide)) hk (fun _ h => h.2)) (fun _ h => h.1))
        have n2_ := Aside0.mk (KeepBut.blk hk (g' := gb317) (o := .cells #[.int .i64 t311, .slice Ao44 t312.length co44] 24 (0, 0)) (bk_ BK317) NB317_0.out (by simp))
        have n3_ := Aside0.mk (KeepBut.trans (by repeat (first | (with_reducible first | exact HK.out | apply KeepBut.set_ | apply keep_drewN | apply keep_drew | apply keep_alloc | refine keep_far ?_ GW310.out _ | refine keep_far ?_ GW317.out _) | exact HK.out)) hk (.inl rfl))
        have n4_ := Aside0.mk (hb)
        have n5_ := Aside0.mk (hi)
        clear BK310
        clear HO314
        clear BK317
        clear HK
        clear HB
        clear HI0
        have BK310 := n0_
        have HO314 := n1_
        have BK317 := n2_
        have HK := n3_
        have HB := n4_
        have HI0 := n5_
        clear n0_ n1_ n2_ n3_ n4_ n5_
        (try clear hb)
        (try clear hb2)
        (try clear hk)
        (try clear hi)
        refine hK.out _ _ ⟨(blk_cell BK317.out 0).trans rfl, (blk_cell BK317.out 1).trans rfl⟩ (fun hHeld => ?_)
        clear hK K
        refine norm_ (a' := ?_) ?_ ?_
        rotate_left
        ·show Act.put _ (some 32) _ = _
         simp only [Act.put, List.setIfInBounds_toArray, List.set_cons_zero, List.set_cons_succ, i64_w, i32_w]
         rfl
        refine one_ (i := 11) (N := some 37) #[oT,oT,oT,oT,oT,oT,oT,oT,oT,oT,oT,oT,oT,oF,oF,oT,oF,oF,oF,oF,oF] rfl rfl (one_of HT_.out (by kernel_rfl)) (by decide) (fun K hK => ?_)
        refine goes_ Try.func77 (by kernel_rfl) rfl #[.pointer (some ⟨g, 0, none⟩), .int .i64 (t312.length : Int)] (by rfl) rfl rfl mt_ ?_
        with_reducible refine (spec_l01Cur_pick.calls g s0_0 t335 t336 (t312.length : Int) t337 t338 t339 w0 _ ?side1 ?side2 A30.out).mono ?_
        (case side1 => repeat (first | (with_reducible first | exact HI0.out | apply IsS85.alloc | apply IsS85.drewN | apply IsS85.drew | apply IsS85.set_1 | apply IsS85.set_2 | refine IsS85.far ?_ NB0_310.out _ | refine IsS85.far ?_ NB0_317.out _) | exact HI0.out))
        (case side2 => repeat (first | (with_reducible first | exact HB.out | apply below_alloc | apply pw_below_drewN | apply below_drew1 | refine below_set ?_ (IsS85.ge HI0.out) | refine below_set ?_ GE310.out | refine below_set ?_ GE317.out) | exact HB.out))
        rintro e w49 ⟨rfl, hi, hb, hk⟩
        refine ⟨_, rfl, ?_⟩
        have n0_ := Aside0.mk (KeepBut.blk hk (g' := gb310) (o := .cells #[.int .i64 0, .slice none 0 0] 24 (0, 0)) (bk_ BK310) NB310_0.out (by simp))
        have n1_ := Aside0.mk (Kd.R_mono (Kd.R_keep (IsS85.apart (show IsS85 w0 _ g s0_0 t335 t336 from by repeat (first | (with_reducible first | exact HI0.out | apply IsS85.alloc | apply IsS85.drewN | apply IsS85.drew | apply IsS85.set_1 | apply IsS85.set_2 | refine IsS85.far ?_ NB0_310.out _ | refine IsS85.far ?_ NB0_317.out _) | exact HI0.out)) (kr_ HO314) (by decide)) hk (fun _ h => h.2)) (fun _ h => h.1))
        have n2_ := Aside0.mk (KeepBut.blk hk (g' := gb317) (o := .cells #[.int .i64 t311, .slice Ao44 t312.length co44] 24 (0, 0)) (bk_ BK317) NB317_0.out (by simp))
        have n3_ := Aside0.mk (KeepBut.trans (by repeat (first | (with_reducible first | exact HK.out | apply KeepBut.set_ | apply keep_drewN | apply keep_drew | apply keep_alloc | refine keep_far ?_ GW310.out _ | refine keep_far ?_ GW317.out _) | exact HK.out)) hk (.inl rfl))
        have n4_ := Aside0.mk (hb)
        have n5_ := Aside0.mk (hi)
        clear BK310
        clear HO314
        clear BK317
        clear HK
        clear HB
        clear HI0
        have BK310 := n0_
        have HO314 := n1_
        have BK317 := n2_
        have HK := n3_
        have HB := n4_
        have HI0 := n5_
        clear n0_ n1_ n2_ n3_ n4_ n5_
        (try clear hb)
        (try clear hb2)
        (try clear hk)
        (try clear hi)
        refine hK.out _ _ ⟨(blk_cell BK317.out 0).trans rfl, (blk_cell BK317.out 1).trans rfl⟩ (fun hHeld => ?_)
        clear hK K
        refine norm_ (a' := ?_) ?_ ?_
        rotate_left
        ·show Act.put _ (some 37) _ = _
         simp only [Act.put, List.setIfInBounds_toArray, List.set_cons_zero, List.set_cons_succ, i64_w, i32_w]
         rfl
        refine one_ (i := 13) (N := some 39) #[oT,oT,oT,oT,oT,oT,oT,oT,oT,oT,oT,oT,oT,oT,oF,oT,oF,oF,oF,oF,oF] rfl rfl (one_of HT_.out (by kernel_rfl)) (by decide) (fun K hK => ?_)
        refine goes_ Try.func78 (by kernel_rfl) rfl #[.pointer (some ⟨g, 0, none⟩)] (by rfl) rfl rfl mt_ ?_
        with_reducible refine (spec_l01Cur_raw.calls g s0_0 t338 t339 t340 t341 t342 w0 _ ?side1 ?side2 A31.out).mono ?_
        (case side1 => repeat (first | (with_reducible first | exact HI0.out | apply IsS85.alloc | apply IsS85.drewN | apply IsS85.drew | apply IsS85.set_1 | apply IsS85.set_2 | refine IsS85.far ?_ NB0_310.out _ | refine IsS85.far ?_ NB0_317.out _) | exact HI0.out))
        (case side2 => repeat (first | (with_reducible first | exact HB.out | apply below_alloc | apply pw_below_drewN | apply below_drew1 | refine below_set ?_ (IsS85.ge HI0.out) | refine below_set ?_ GE310.out | refine below_set ?_ GE317.out) | exact HB.out))
        rintro e w50 ⟨rfl, hi, hb, hk⟩
        refine ⟨_, rfl, ?_⟩
        have n0_ := Aside0.mk (KeepBut.blk hk (g' := gb310) (o := .cells #[.int .i64 0, .slice none 0 0] 24 (0, 0)) (bk_ BK310) NB310_0.out (by simp))
        have n1_ := Aside0.mk (Kd.R_mono (Kd.R_keep (IsS85.apart (show IsS85 w0 _ g s0_0 t338 t339 from by repeat (first | (with_reducible first | exact HI0.out | apply IsS85.alloc | apply IsS85.drewN | apply IsS85.drew | apply IsS85.set_1 | apply IsS85.set_2 | refine IsS85.far ?_ NB0_310.out _ | refine IsS85.far ?_ NB0_317.out _) | exact HI0.out)) (kr_ HO314) (by decide)) hk (fun _ h => h.2)) (fun _ h => h.1))
        have n2_ := Aside0.mk (KeepBut.blk hk (g' := gb317) (o := .cells #[.int .i64 t311, .slice Ao44 t312.length co44] 24 (0, 0)) (bk_ BK317) NB317_0.out (by simp))
        have n3_ := Aside0.mk (KeepBut.trans (by repeat (first | (with_reducible first | exact HK.out | apply KeepBut.set_ | apply keep_drewN | apply keep_drew | apply keep_alloc | refine keep_far ?_ GW310.out _ | refine keep_far ?_ GW317.out _) | exact HK.out)) hk (.inl rfl))
        have n4_ := Aside0.mk (hb)
        have n5_ := Aside0.mk (hi)
        clear BK310
        clear HO314
        clear BK317
        clear HK
        clear HB
        clear HI0
        have BK310 := n0_
        have HO314 := n1_
        have BK317 := n2_
        have HK := n3_
        have HB := n4_
        have HI0 := n5_
        clear n0_ n1_ n2_ n3_ n4_ n5_
        (try clear hb)
        (try clear hb2)
        (try clear hk)
        (try clear hi)
        refine hK.out _ _ ⟨(blk_cell BK317.out 0).trans rfl, (blk_cell BK317.out 1).trans rfl⟩ (fun hHeld => ?_)
        clear hK K
        refine norm_ (a' := ?_) ?_ ?_
        rotate_left
        ·show Act.put _ (some 39) _ = _
         simp only [Act.put, List.setIfInBounds_toArray, List.set_cons_zero, List.set_cons_succ, i64_w, i32_w]
         rfl
        refine join_ (σ := Value × Addr) 4 (bs 21 17) (fun s_ => [(40, s_.1), (42, .int .i64 t346)]) (fun s_ w' => (w'.cell? ⟨gb317, 0, none⟩ = some (.int .i64 t311) ∧ w'.cell? ⟨gb317, 1, none⟩ = some (.slice Ao44 t312.length co44)) ∧ (Kd.R (Kd.int .i64) 3 w' w.heap.size (fun k_ => some k_ ≠ (s_.1 : Value).ownBlock) (.slice Ao44 t312.length co44) t312) ∧ (Kd.R (Kd.int .i64) 3 w' w.heap.size (fun k_ => some k_ ≠ (.slice Ao44 t312.length co44 : Value).ownBlock) s_.1 y343) ∧ (∃ c_, (s_.1 : Value) = .slice (some s_.2) y343.length c_) ∧ (w'.heap[gb310]? = some (.cells #[.int .i64 0, .slice none 0 0] 24 (0, 0))) ∧ (w'.heap[gb317]? = some (.cells #[.int .i64 t311, .slice Ao44 t312.length co44] 24 (0, 0))) ∧ (IsS85 w0 w' g s0_0 t347 t348) ∧ (KeepBut w w' g none) ∧ (Below w0.heap.size w0 w')) ?_ ?_
        rotate_left
        ·intro hCont
         refine two_ (i := 14) (j := 16) (Ni := some 40) (Nj := some 42) (bs 21 16) #[oT,oT,oT,oT,oT,oT,oT,oT,oT,oT,oT,oT,oT,oT,oF,oT,oT,oF,oF,oF,oF] rfl rfl rfl rfl (two_of HT_.out (by kernel_rfl)) (by decide) (by decide) (fun K hK => ?_) (fun K hK => ?_)
         ·skip
          refine Kd.R_lit_step (Kd.int .i64) _ 3 ?hg (N := 40) ?hd (xs := ([t337, t340, (-1)] : List Int)) (inner := [.int .i64 t337, .int .i64 t340, .int .i64 (-1)]) (ok := fun _ => True) (okp := fun _ => True) ?hr ?hp (fun _ hk => by first | exact hk | grind) trivial (Below.refl _ _) (Nat.le_refl _) (by simp) ?_; (case hd => rfl); (case hg => rfl); (case hr => first | (go_simp; done) | (go_simp; rfl)); (case hp => exact (Reps.one (show Kd.M (Kd.int .i64) _ _ _ t337 [.int .i64 t337] from rfl) (Reps.one (show Kd.M (Kd.int .i64) _ _ _ t340 [.int .i64 t340] from rfl) (Reps.one (show Kd.M (Kd.int .i64) _ _ _ (-1) [.int .i64 (-1)] from rfl) (Reps.none _ _)))))
          intro v344 w51 ho52 hb hg_ hnew_
          clear hg_ hnew_
          (first | rw [← Ny343.out] at ho52 | (simp only [Int.reduceToNat] at ho52; rw [← Ny343.out] at ho52))
          have n0_ := Aside0.mk (Kd.R_elder' (kr_ HO314) (Kd.R_base ho52) hb)
          have n1_ := Aside0.mk (Kd.R_lower (Kd.R_new' ho52 (Kd.R_lt (kr_ HO314))) (keep_size (w := w) (g := g) (row := none) (by repeat (first | (with_reducible first | exact HK.out | apply KeepBut.set_ | apply keep_drewN | apply keep_drew | apply keep_alloc | refine keep_far ?_ GW310.out _ | refine keep_far ?_ GW317.out _) | exact HK.out))))
          have n2_ := Aside0.mk (IsS85.below (by repeat (first | (with_reducible first | exact HI0.out | apply IsS85.alloc | apply IsS85.drewN | apply IsS85.drew | apply IsS85.set_1 | apply IsS85.set_2 | refine IsS85.far ?_ NB0_310.out _ | refine IsS85.far ?_ NB0_317.out _) | exact HI0.out)) hb)
          have n3_ := Aside0.mk (blk_below (g := gb310) (o := .cells #[.int .i64 0, .slice none 0 0] 24 (0, 0)) (bk_ BK310) hb)
          have n4_ := Aside0.mk (blk_below (g := gb317) (o := .cells #[.int .i64 t311, .slice Ao44 t312.length co44] 24 (0, 0)) (bk_ BK317) hb)
          have n5_ := Aside0.mk (KeepBut.trans (by repeat (first | (with_reducible first | exact HK.out | apply KeepBut.set_ | apply keep_drewN | apply keep_drew | apply keep_alloc | refine keep_far ?_ GW310.out _ | refine keep_far ?_ GW317.out _) | exact HK.out)) (KeepBut.of_below hb g none) (.inl rfl))
          have n6_ := Aside0.mk (below_step (by repeat (first | (with_reducible first | exact HB.out | apply below_alloc | apply pw_below_drewN | apply below_drew1 | refine below_set ?_ (IsS85.ge HI0.out) | refine below_set ?_ GE310.out | refine below_set ?_ GE317.out) | exact HB.out)) hb)
          clear HO314
          clear HI0
          clear BK310
          clear BK317
          clear HK
          clear HB
          have HO314 := n0_
          have HO345 := n1_
          have HI0 := n2_
          have BK310 := n3_
          have BK317 := n4_
          have HK := n5_
          have HB := n6_
          clear n0_ n1_ n2_ n3_ n4_ n5_ n6_
          clear hb ho52
          obtain ⟨Ao53, co53, eo53⟩ := Kd.R_slice HO345.out
          subst eo53
          obtain ⟨ado53, fo53, _⟩ := Kd.at_int (Kd.R_reads' HO345.out).2.2 0 (by decide) (by rw [Ny343.out]; simp)
          cases fo53
          refine hK.out _ _ ⟨(blk_cell BK317.out 0).trans rfl, (blk_cell BK317.out 1).trans rfl⟩ (fun hHeld => ?_)
          clear hK K
          refine norm_ (a' := ?_) ?_ ?_
          rotate_left
          ·show Act.put _ (some 40) _ = _
           simp only [Act.put, List.setIfInBounds_toArray, List.set_cons_zero, List.set_cons_succ, i64_w, i32_w]
           rfl
          refine one_ (i := 16) (N := some 42) (bs 21 17) rfl rfl (one_of HT_.out (by kernel_rfl)) (by decide) (fun K hK => ?_)
          refine goes_ Try.func77 (by kernel_rfl) rfl #[.pointer (some ⟨g, 0, none⟩), .int .i64 3] (by rfl) rfl rfl mt_ ?_
          with_reducible refine (spec_l01Cur_pick.calls g s0_0 t341 t342 3 t346 t347 t348 w0 _ ?side1 ?side2 A32.out).mono ?_
          (case side1 => repeat (first | (with_reducible first | exact HI0.out | apply IsS85.alloc | apply IsS85.drewN | apply IsS85.drew | apply IsS85.set_1 | apply IsS85.set_2 | refine IsS85.far ?_ NB0_310.out _ | refine IsS85.far ?_ NB0_317.out _) | exact HI0.out))
          (case side2 => repeat (first | (with_reducible first | exact HB.out | apply below_alloc | apply pw_below_drewN | apply below_drew1 | refine below_set ?_ (IsS85.ge HI0.out) | refine below_set ?_ GE310.out | refine below_set ?_ GE317.out) | exact HB.out))
          rintro e w54 ⟨rfl, hi, hb, hk⟩
          refine ⟨_, rfl, ?_⟩
          have n0_ := Aside0.mk (KeepBut.blk hk (g' := gb310) (o := .cells #[.int .i64 0, .slice none 0 0] 24 (0, 0)) (bk_ BK310) NB310_0.out (by simp))
          have n1_ := Aside0.mk (Kd.R_mono (Kd.R_keep (IsS85.apart (show IsS85 w0 _ g s0_0 t341 t342 from by repeat (first | (with_reducible first | exact HI0.out | apply IsS85.alloc | apply IsS85.drewN | apply IsS85.drew | apply IsS85.set_1 | apply IsS85.set_2 | refine IsS85.far ?_ NB0_310.out _ | refine IsS85.far ?_ NB0_317.out _) | exact HI0.out)) (kr_ HO314) (by decide)) hk (fun _ h => h.2)) (fun _ h => h.1))
          have n2_ := Aside0.mk (KeepBut.blk hk (g' := gb317) (o := .cells #[.int .i64 t311, .slice Ao44 t312.length co44] 24 (0, 0)) (bk_ BK317) NB317_0.out (by simp))
          have n3_ := Aside0.mk (Kd.R_mono (Kd.R_keep (IsS85.apart (show IsS85 w0 _ g s0_0 t341 t342 from by repeat (first | (with_reducible first | exact HI0.out | apply IsS85.alloc | apply IsS85.drewN | apply IsS85.drew | apply IsS85.set_1 | apply IsS85.set_2 | refine IsS85.far ?_ NB0_310.out _ | refine IsS85.far ?_ NB0_317.out _) | exact HI0.out)) (kr_ HO345) (by decide)) hk (fun _ h => h.2)) (fun _ h => h.1))
          have n4_ := Aside0.mk (KeepBut.trans (by repeat (first | (with_reducible first | exact HK.out | apply KeepBut.set_ | apply keep_drewN | apply keep_drew | apply keep_alloc | refine keep_far ?_ GW310.out _ | refine keep_far ?_ GW317.out _) | exact HK.out)) hk (.inl rfl))
          have n5_ := Aside0.mk (hb)
          have n6_ := Aside0.mk (hi)
          clear BK310
          clear HO314
          clear BK317
          clear HO345
          clear HK
          clear HB
          clear HI0
          have BK310 := n0_
          have HO314 := n1_
          have BK317 := n2_
          have HO345 := n3_
          have HK := n4_
          have HB := n5_
          have HI0 := n6_
          clear n0_ n1_ n2_ n3_ n4_ n5_ n6_
          (try clear hb)
          (try clear hb2)
          (try clear hk)
          (try clear hi)
          refine hK.out _ _ ⟨(blk_cell BK317.out 0).trans rfl, (blk_cell BK317.out 1).trans rfl⟩ (fun hHeld => ?_)
          clear hK K
          refine norm_ (a' := ?_) ?_ ?_
          rotate_left
          ·show Act.put _ (some 42) _ = _
           simp only [Act.put, List.setIfInBounds_toArray, List.set_cons_zero, List.set_cons_succ, i64_w, i32_w]
           rfl
          exact norm_ (by simp only [putAll, Act.put, List.setIfInBounds_toArray, List.set_cons_zero, List.set_cons_succ]) (hCont (.slice (some ado53) y343.length co53, ado53) _ ⟨hHeld, (by (with_reducible repeat (first | apply Kd.R_alloc | apply Kd.R_drewN | apply Kd.R_drew)); exact Kd.R_mono HO314.out (fun _ hk => by first | exact hk.2 | grind)), (by (with_reducible repeat (first | apply Kd.R_alloc | apply Kd.R_drewN | apply Kd.R_drew)); exact Kd.R_mono HO345.out (fun _ hk => by first | exact hk.2 | grind)), ⟨_, rfl⟩, (bk_ BK310), (bk_ BK317), (by repeat (first | (with_reducible first | exact HI0.out | apply IsS85.alloc | apply IsS85.drewN | apply IsS85.drew | apply IsS85.set_1 | apply IsS85.set_2 | refine IsS85.far ?_ NB0_310.out _ | refine IsS85.far ?_ NB0_317.out _) | exact HI0.out)), (by repeat (first | (with_reducible first | exact HK.out | apply KeepBut.set_ | apply keep_drewN | apply keep_drew | apply keep_alloc | refine keep_far ?_ GW310.out _ | refine keep_far ?_ GW317.out _) | exact HK.out)), (by repeat (first | (with_reducible first | exact HB.out | apply below_alloc | apply pw_below_drewN | apply below_drew1 | refine below_set ?_ (IsS85.ge HI0.out) | refine below_set ?_ GE310.out | refine below_set ?_ GE317.out) | exact HB.out))⟩)
         ·skip
          refine goes_ Try.func77 (by kernel_rfl) rfl #[.pointer (some ⟨g, 0, none⟩), .int .i64 3] (by rfl) rfl rfl mt_ ?_
          with_reducible refine (spec_l01Cur_pick.calls g s0_0 t341 t342 3 t346 t347 t348 w0 _ ?side1 ?side2 A32.out).mono ?_
          (case side1 => repeat (first | (with_reducible first | exact HI0.out | apply IsS85.alloc | apply IsS85.drewN | apply IsS85.drew | apply IsS85.set_1 | apply IsS85.set_2 | refine IsS85.far ?_ NB0_310.out _ | refine IsS85.far ?_ NB0_317.out _) | exact HI0.out))
          (case side2 => repeat (first | (with_reducible first | exact HB.out | apply below_alloc | apply pw_below_drewN | apply below_drew1 | refine below_set ?_ (IsS85.ge HI0.out) | refine below_set ?_ GE310.out | refine below_set ?_ GE317.out) | exact HB.out))
          rintro e w51 ⟨rfl, hi, hb, hk⟩
          refine ⟨_, rfl, ?_⟩
          have n0_ := Aside0.mk (KeepBut.blk hk (g' := gb310) (o := .cells #[.int .i64 0, .slice none 0 0] 24 (0, 0)) (bk_ BK310) NB310_0.out (by simp))
          have n1_ := Aside0.mk (Kd.R_mono (Kd.R_keep (IsS85.apart (show IsS85 w0 _ g s0_0 t341 t342 from by repeat (first | (with_reducible first | exact HI0.out | apply IsS85.alloc | apply IsS85.drewN | apply IsS85.drew | apply IsS85.set_1 | apply IsS85.set_2 | refine IsS85.far ?_ NB0_310.out _ | refine IsS85.far ?_ NB0_317.out _) | exact HI0.out)) (kr_ HO314) (by decide)) hk (fun _ h => h.2)) (fun _ h => h.1))
          have n2_ := Aside0.mk (KeepBut.blk hk (g' := gb317) (o := .cells #[.int .i64 t311, .slice Ao44 t312.length co44] 24 (0, 0)) (bk_ BK317) NB317_0.out (by simp))
          have n3_ := Aside0.mk (KeepBut.trans (by repeat (first | (with_reducible first | exact HK.out | apply KeepBut.set_ | apply keep_drewN | apply keep_drew | apply keep_alloc | refine keep_far ?_ GW310.out _ | refine keep_far ?_ GW317.out _) | exact HK.out)) hk (.inl rfl))
          have n4_ := Aside0.mk (hb)
          have n5_ := Aside0.mk (hi)
          clear BK310
          clear HO314
          clear BK317
          clear HK
          clear HB
          clear HI0
          have BK310 := n0_
          have HO314 := n1_
          have BK317 := n2_
          have HK := n3_
          have HB := n4_
          have HI0 := n5_
          clear n0_ n1_ n2_ n3_ n4_ n5_
          (try clear hb)
          (try clear hb2)
          (try clear hk)
          (try clear hi)
          refine hK.out _ _ ⟨(blk_cell BK317.out 0).trans rfl, (blk_cell BK317.out 1).trans rfl⟩ (fun hHeld => ?_)
          clear hK K
          refine norm_ (a' := ?_) ?_ ?_
          rotate_left
          ·show Act.put _ (some 42) _ = _
           simp only [Act.put, List.setIfInBounds_toArray, List.set_cons_zero, List.set_cons_succ, i64_w, i32_w]
           rfl
          refine one_ (i := 14) (N := some 40) (bs 21 17) rfl rfl (one_of HT_.out (by kernel_rfl)) (by decide) (fun K hK => ?_)
          refine Kd.R_lit_step (Kd.int .i64) _ 3 ?hg (N := 40) ?hd (xs := ([t337, t340, (-1)] : List Int)) (inner := [.int .i64 t337, .int .i64 t340, .int .i64 (-1)]) (ok := fun _ => True) (okp := fun _ => True) ?hr ?hp (fun _ hk => by first | exact hk | grind) trivial (Below.refl _ _) (Nat.le_refl _) (by simp) ?_; (case hd => rfl); (case hg => rfl); (case hr => first | (go_simp; done) | (go_simp; rfl)); (case hp => exact (Reps.one (show Kd.M (Kd.int .i64) _ _ _ t337 [.int .i64 t337] from rfl) (Reps.one (show Kd.M (Kd.int .i64) _ _ _ t340 [.int .i64 t340] from rfl) (Reps.one (show Kd.M (Kd.int .i64) _ _ _ (-1) [.int .i64 (-1)] from rfl) (Reps.none _ _)))))
          intro v344 w52 ho53 hb hg_ hnew_
          clear hg_ hnew_
          (first | rw [← Ny343.out] at ho53 | (simp only [Int.reduceToNat] at ho53; rw [← Ny343.out] at ho53))
          have n0_ := Aside0.mk (Kd.R_elder' (kr_ HO314) (Kd.R_base ho53) hb)
          have n1_ := Aside0.mk (Kd.R_lower (Kd.R_new' ho53 (Kd.R_lt (kr_ HO314))) (keep_size (w := w) (g := g) (row := none) (by repeat (first | (with_reducible first | exact HK.out | apply KeepBut.set_ | apply keep_drewN | apply keep_drew | apply keep_alloc | refine keep_far ?_ GW310.out _ | refine keep_far ?_ GW317.out _) | exact HK.out))))
          have n2_ := Aside0.mk (IsS85.below (by repeat (first | (with_reducible first | exact HI0.out | apply IsS85.alloc | apply IsS85.drewN | apply IsS85.drew | apply IsS85.set_1 | apply IsS85.set_2 | refine IsS85.far ?_ NB0_310.out _ | refine IsS85.far ?_ NB0_317.out _) | exact HI0.out)) hb)
          have n3_ := Aside0.mk (blk_below (g := gb310) (o := .cells #[.int .i64 0, .slice none 0 0] 24 (0, 0)) (bk_ BK310) hb)
          have n4_ := Aside0.mk (blk_below (g := gb317) (o := .cells #[.int .i64 t311, .slice Ao44 t312.length co44] 24 (0, 0)) (bk_ BK317) hb)
          have n5_ := Aside0.mk (KeepBut.trans (by repeat (first | (with_reducible first | exact HK.out | apply KeepBut.set_ | apply keep_drewN | apply keep_drew | apply keep_alloc | refine keep_far ?_ GW310.out _ | refine keep_far ?_ GW317.out _) | exact HK.out)) (KeepBut.of_below hb g none) (.inl rfl))
          have n6_ := Aside0.mk (below_step (by repeat (first | (with_reducible first | exact HB.out | apply below_alloc | apply pw_below_drewN | apply below_drew1 | refine below_set ?_ (IsS85.ge HI0.out) | refine below_set ?_ GE310.out | refine below_set ?_ GE317.out) | exact HB.out)) hb)
          clear HO314
          clear HI0
          clear BK310
          clear BK317
          clear HK
          clear HB
          have HO314 := n0_
          have HO345 := n1_
          have HI0 := n2_
          have BK310 := n3_
          have BK317 := n4_
          have HK := n5_
          have HB := n6_
          clear n0_ n1_ n2_ n3_ n4_ n5_ n6_
          clear hb ho53
          obtain ⟨Ao54, co54, eo54⟩ := Kd.R_slice HO345.out
          subst eo54
          obtain ⟨ado54, fo54, _⟩ := Kd.at_int (Kd.R_reads' HO345.out).2.2 0 (by decide) (by rw [Ny343.out]; simp)
          cases fo54
          refine hK.out _ _ ⟨(blk_cell BK317.out 0).trans rfl, (blk_cell BK317.out 1).trans rfl⟩ (fun hHeld => ?_)
          clear hK K
          refine norm_ (a' := ?_) ?_ ?_
          rotate_left
          ·show Act.put _ (some 40) _ = _
           simp only [Act.put, List.setIfInBounds_toArray, List.set_cons_zero, List.set_cons_succ, i64_w, i32_w]
           rfl
          exact norm_ (by simp only [putAll, Act.put, List.setIfInBounds_toArray, List.set_cons_zero, List.set_cons_succ]) (hCont (.slice (some ado54) y343.length co54, ado54) _ ⟨hHeld, (by (with_reducible repeat (first | apply Kd.R_alloc | apply Kd.R_drewN | apply Kd.R_drew)); exact Kd.R_mono HO314.out (fun _ hk => by first | exact hk.2 | grind)), (by (with_reducible repeat (first | apply Kd.R_alloc | apply Kd.R_drewN | apply Kd.R_drew)); exact Kd.R_mono HO345.out (fun _ hk => by first | exact hk.2 | grind)), ⟨_, rfl⟩, (bk_ BK310), (bk_ BK317), (by repeat (first | (with_reducible first | exact HI0.out | apply IsS85.alloc | apply IsS85.drewN | apply IsS85.drew | apply IsS85.set_1 | apply IsS85.set_2 | refine IsS85.far ?_ NB0_310.out _ | refine IsS85.far ?_ NB0_317.out _) | exact HI0.out)), (by repeat (first | (with_reducible first | exact HK.out | apply KeepBut.set_ | apply keep_drewN | apply keep_drew | apply keep_alloc | refine keep_far ?_ GW310.out _ | refine keep_far ?_ GW317.out _) | exact HK.out)), (by repeat (first | (with_reducible first | exact HB.out | apply below_alloc | apply pw_below_drewN | apply below_drew1 | refine below_set ?_ (IsS85.ge HI0.out) | refine below_set ?_ GE310.out | refine below_set ?_ GE317.out) | exact HB.out))⟩)
        rintro ⟨v344, adz_v344⟩ w55 ⟨hS_, h0_, h1_, h2_, h3_, h4_, h5_, h6_, h7_⟩
        have n0_ : Aside0 (Kd.R (Kd.int .i64) 3 w55 w.heap.size (fun k_ => some k_ ≠ (v344 : Value).ownBlock) (.slice Ao44 t312.length co44) t312) := ⟨h0_⟩
        have n1_ : Aside0 (Kd.R (Kd.int .i64) 3 w55 w.heap.size (fun k_ => some k_ ≠ (.slice Ao44 t312.length co44 : Value).ownBlock) v344 y343) := ⟨h1_⟩
        have n2_ : Aside0 (∃ c_, (v344 : Value) = .slice (some adz_v344) y343.length c_) := ⟨h2_⟩
        have n3_ : Aside0 (w55.heap[gb310]? = some (.cells #[.int .i64 0, .slice none 0 0] 24 (0, 0))) := ⟨h3_⟩
        have n4_ : Aside0 (w55.heap[gb317]? = some (.cells #[.int .i64 t311, .slice Ao44 t312.length co44] 24 (0, 0))) := ⟨h4_⟩
        have n5_ : Aside0 (IsS85 w0 w55 g s0_0 t347 t348) := ⟨h5_⟩
        have n6_ : Aside0 (KeepBut w w55 g none) := ⟨h6_⟩
        have n7_ : Aside0 (Below w0.heap.size w0 w55) := ⟨h7_⟩
        clear HO314
        clear BK310
        clear BK317
        clear HI0
        clear HK
        clear HB
        clear h0_ h1_ h2_ h3_ h4_ h5_ h6_ h7_
        have HO314 := n0_
        have HO345 := n1_
        have HA_HO345 := n2_
        have BK310 := n3_
        have BK317 := n4_
        have HI0 := n5_
        have HK := n6_
        have HB := n7_
        clear n0_ n1_ n2_ n3_ n4_ n5_ n6_ n7_
        have hHeld : w55.cell? ⟨gb317, 0, none⟩ = some (.int .i64 t311) ∧ w55.cell? ⟨gb317, 1, none⟩ = some (.slice Ao44 t312.length co44) := hS_
        obtain ⟨co56, eo56⟩ := HA_HO345.out
        clear HA_HO345
        subst eo56
        have p37 : 0 ≤ (t334 : Int) := of_decide_eq_true (by first | (with_reducible assumption) | assumption)
        have q37 : (t334 : Int) < ((t312.length : Int) : Int) := of_decide_eq_true (by first | (with_reducible assumption) | assumption)
        obtain ⟨go37, co37, eo37, gb37, gl37, cl37, HG37⟩ := Kd.R_form HO314.out (by omega)
        (first | cases eo37 | (injection eo37 with ea_ en_ ec_; (first | subst ea_ | (injection ea_ with ea_; subst ea_)); subst ec_; clear en_))
        have GB37 := Aside0.mk gb37
        have GG37 := Aside0.mk HG37
        clear gb37 gl37 HG37
        obtain ⟨hx37_0, hf37_0⟩ := Kd.R_celln 0 HO314.out (t334 : Int) p37 q37
        replace p37 := eq_true p37
        replace q37 := eq_true q37
        have HN0_go37 := Aside0.mk (show g ≠ go37 from by have h_ := IsS85.own_ne HI0.out HO314.out (by decide); intro e_; exact h_ (by rw [e_]; rfl))
        have HP57 := Kd.R_putn HO314.out (t334 : Int) (rd y343 t346)
        rw [← Ny350.out] at HP57
        have HQ57 := Aside0.mk HP57
        clear HP57
        refine norm_ (a' := ?_) ?_ ?_
        rotate_left
        ·simp only [putAll, Act.put, List.setIfInBounds_toArray, List.set_cons_zero, List.set_cons_succ]
         rfl
        refine pure_s (i := 17) (N := some 43) (bs 21 18) (any_of HT_.out (by kernel_rfl)) (h := ?_)
        refine one_ (i := 18) (N := some 44) (bs 21 19) rfl rfl (one_of HT_.out (by kernel_rfl)) (by decide) (fun K hK => ?_)
        (have p349 : 0 ≤ (t346 : Int) := of_decide_eq_true (by first | (with_reducible assumption) | assumption); have q349 : t346 < (y343.length : Int) := of_decide_eq_true (by first | (with_reducible assumption) | assumption); obtain ⟨ad349, e349, hx349_0⟩ := Kd.at_int (Kd.R_reads' HO345.out).2.2 t346 p349 q349; obtain rfl : adz_v344 = ad349 := (by injection e349))
        refine value_ (w1 := ?_) (v := ?_) (by rfl) rfl ?_ ?_
        rotate_left 2
        ·go_simp
         constructor
         ·rfl
         ·rfl
        clear hx349_0
        refine hK.out _ _ ⟨(blk_cell BK317.out 0).trans rfl, (blk_cell BK317.out 1).trans rfl⟩ (fun hHeld => ?_)
        clear hK K
        refine norm_ (a' := ?_) ?_ ?_
        rotate_left
        ·show Act.put _ (some 44) _ = _
         simp only [Act.put, List.setIfInBounds_toArray, List.set_cons_zero, List.set_cons_succ, i64_w, i32_w]
         rfl
        refine pure_s (i := 19) (N := some 45) (bs 21 20) (any_of HT_.out (by kernel_rfl)) (h := ?_)
        refine last_ (i := 20) (N := none) (bs 21 21) rfl rfl (one_of HT_.out (by kernel_rfl)) (by decide) (fun K hK => ?_)
        refine skip_ (w1 := ?_) (by rfl) rfl ?_ ?_
        rotate_left
        ·go_simp
         rfl
        refine hK.out _ _ ?_
        clear hK K
        refine done_ (done_of HT_.out (by kernel_rfl)) ?_
        have n0_ : Aside0 (Kd.R (Kd.int .i64) 3 (w55.setCell ⟨go37, (t334 : Int).toNat, none⟩ (.int .i64 (rd y343 t346))) w.heap.size (fun k_ => some k_ ≠ (.slice (some adz_v344) y343.length co56 : Value).ownBlock) (.slice (some ⟨go37, 0, none⟩) t312.length co44) y350) := ⟨kr_ HQ57⟩
        have n1_ : Aside0 (Kd.R (Kd.int .i64) 3 (w55.setCell ⟨go37, (t334 : Int).toNat, none⟩ (.int .i64 (rd y343 t346))) w.heap.size (fun k_ => some k_ ≠ (.slice (some ⟨go37, 0, none⟩) t312.length co44 : Value).ownBlock) (.slice (some adz_v344) y343.length co56) y343) := ⟨by (with_reducible repeat (first | apply Kd.R_alloc | apply Kd.R_drewN | apply Kd.R_drew)); exact Kd.R_mono (Kd.R_far (p := ⟨go37, (t334 : Int).toNat, none⟩) (Kd.R_mono HO345.out (fun k_ hk => by first | exact (⟨hk, fun e_ => hk (by rw [e_]; rfl)⟩ : _ ∧ k_ ≠ go37) | grind)) (fun _ hk => by first | exact hk.2 | grind) (.int .i64 (rd y343 t346))) (fun _ hk => by first | exact hk.1 | grind)⟩
        have n2_ : Aside0 ((w55.setCell ⟨go37, (t334 : Int).toNat, none⟩ (.int .i64 (rd y343 t346))).heap[gb310]? = some (.cells #[.int .i64 0, .slice none 0 0] 24 (0, 0))) := ⟨by (with_reducible repeat (first | refine blk_drewN ?_ _ | refine blk_drew ?_ | refine blk_alloc ?_ _)); refine blk_far ?_ (by have h_ := Kd.R_ne HO314.out BK310.out (by decide); intro e_; exact h_ (by rw [e_]; rfl)) _; exact bk_ BK310⟩
        have n3_ : Aside0 ((w55.setCell ⟨go37, (t334 : Int).toNat, none⟩ (.int .i64 (rd y343 t346))).heap[gb317]? = some (.cells #[.int .i64 t311, .slice (some ⟨go37, 0, none⟩) t312.length co44] 24 (0, 0))) := ⟨by (with_reducible repeat (first | refine blk_drewN ?_ _ | refine blk_drew ?_ | refine blk_alloc ?_ _)); refine blk_far ?_ (by have h_ := Kd.R_ne HO314.out BK317.out (by decide); intro e_; exact h_ (by rw [e_]; rfl)) _; exact bk_ BK317⟩
        have n4_ : Aside0 (IsS85 w0 (w55.setCell ⟨go37, (t334 : Int).toNat, none⟩ (.int .i64 (rd y343 t346))) g s0_0 t347 t348) := ⟨by repeat (first | (with_reducible first | exact HI0.out | apply IsS85.alloc | apply IsS85.drewN | apply IsS85.drew | apply IsS85.set_1 | apply IsS85.set_2 | refine IsS85.far ?_ HN0_go37.out _ | refine IsS85.far ?_ NB0_310.out _ | refine IsS85.far ?_ NB0_317.out _) | exact HI0.out)⟩
        have n5_ : Aside0 (KeepBut w (w55.setCell ⟨go37, (t334 : Int).toNat, none⟩ (.int .i64 (rd y343 t346))) g none) := ⟨by repeat (first | (with_reducible first | exact HK.out | apply KeepBut.set_ | apply keep_drewN | apply keep_drew | apply keep_alloc | refine keep_far ?_ GB37.out _ | refine keep_far ?_ GW310.out _ | refine keep_far ?_ GW317.out _) | exact HK.out)⟩
        have n6_ : Aside0 (Below w0.heap.size w0 (w55.setCell ⟨go37, (t334 : Int).toNat, none⟩ (.int .i64 (rd y343 t346)))) := ⟨by repeat (first | (with_reducible first | exact HB.out | apply below_alloc | apply pw_below_drewN | apply below_drew1 | refine below_set ?_ (Nat.le_trans HL.out GB37.out) | refine below_set ?_ (IsS85.ge HI0.out) | refine below_set ?_ GE310.out | refine below_set ?_ GE317.out) | exact HB.out)⟩
        (try clear HO314)
        (try clear HO345)
        (try clear BK310)
        (try clear BK317)
        (try clear HI0)
        (try clear HK)
        (try clear HB)
        generalize (w55.setCell ⟨go37, (t334 : Int).toNat, none⟩ (.int .i64 (rd y343 t346))) = w58 at n0_ n1_ n2_ n3_ n4_ n5_ n6_ ⊢
        have HO314 := n0_
        have HO345 := n1_
        have BK310 := n2_
        have BK317 := n3_
        have HI0 := n4_
        have HK := n5_
        have HB := n6_
        clear n0_ n1_ n2_ n3_ n4_ n5_ n6_
        have hcz59_0 : w58.cell? ⟨gb317, 0, none⟩ = some (.int .i64 t311) := (blk_cell BK317.out 0).trans rfl
        have hcz59_1 : w58.cell? ⟨gb317, 1, none⟩ = some (.slice (some ⟨go37, 0, none⟩) t312.length co44) := (blk_cell BK317.out 1).trans rfl
        have hfz59_0 := blk_frozen BK317.out 0
        have hfz59_1 := blk_frozen BK317.out 1
        have hnb60 := NB310_0.out
        have hnc60 := NB0_310.out
        have hcz61_0 : w58.cell? ⟨gb310, 0, none⟩ = some (.int .i64 0) := (blk_cell BK310.out 0).trans rfl
        have hcz61_1 : w58.cell? ⟨gb310, 1, none⟩ = some (.slice none 0 0) := (blk_cell BK310.out 1).trans rfl
        have hfz61_0 := blk_frozen BK310.out 0
        have hfz61_1 := blk_frozen BK310.out 1
        try go_wp2
        refine bodyPost_ret (results_cell_row rfl _ _ gb310 24 #[.int .i64 t311, .slice (some ⟨go37, 0, none⟩) t312.length co44] (0, 0) _ rfl (by (with_reducible repeat (first | refine blk_drewN ?_ _ | refine blk_drew ?_ | refine blk_alloc ?_ _)); refine blk_put (cs := #[.int .i64 t311, .slice none 0 0]) ?_ 1 _ rfl; (with_reducible repeat (first | refine blk_drewN ?_ _ | refine blk_drew ?_ | refine blk_alloc ?_ _)); refine blk_put (cs := #[.int .i64 0, .slice none 0 0]) ?_ 0 _ rfl; exact bk_ BK310) Try.underlying24 rfl (by kernel_rfl)) rfl ?_
        exact ⟨_, by first | rfl | (simp [errW_none, errW_some] <;> rfl) | (simp [*, errW_none, errW_some] <;> rfl), by (with_reducible repeat (first | apply Kd.R_alloc | apply Kd.R_drewN | apply Kd.R_drew)); exact Kd.R_mono (Kd.R_far (p := ⟨gb310, 1, none⟩) (Kd.R_far (p := ⟨gb310, 0, none⟩) (Kd.R_types HO314.out BK310.out (by decide)) (fun _ hk => by first | exact hk.2 | grind) (.int .i64 t311)) (fun _ hk => by first | exact hk.2 | grind) (.slice (some ⟨go37, 0, none⟩) t312.length co44)) (fun _ hk => by first | exact trivial | grind), by repeat (first | (with_reducible first | exact HI0.out | apply IsS85.alloc | apply IsS85.drewN | apply IsS85.drew | apply IsS85.set_1 | apply IsS85.set_2 | refine IsS85.far ?_ NB0_310.out _ | refine IsS85.far ?_ NB0_317.out _) | exact HI0.out), by repeat (first | (with_reducible first | exact HB.out | apply below_alloc | apply pw_below_drewN | apply below_drew1 | refine below_set ?_ (IsS85.ge HI0.out) | refine below_set ?_ GE310.out | refine below_set ?_ GE317.out) | exact HB.out), by repeat (first | (with_reducible first | exact HK.out | apply KeepBut.set_ | apply keep_drewN | apply keep_drew | apply keep_alloc | refine keep_far ?_ GW310.out _ | refine keep_far ?_ GW317.out _) | exact HK.out)⟩
       ·rw [if_neg c36] at H
        exact absurd H (by simp)
      ·rw [if_neg c35] at H
       exact absurd H (by simp)
     ·rw [if_neg c34] at H
      exact absurd H (by simp)
    ·rw [if_neg c33] at H
     exact absurd H (by simp)
   ·rw [if_neg c28] at H
    have c28b0 : decide (0 < (t312.length : Int)) = false := decide_eq_false c28
    have c28b1 : decide (0 < t312.length) = false := decide_eq_false (by omega)
    clear c28
    simp only [Option.some.injEq, Prod.mk.injEq] at H
    obtain ⟨rfl, rfl, rfl, rfl⟩ := H
    go_enter Try.func76, Try.ntmps76
    go_wp2_with (first | ((with_reducible refine gate_dst (N := 2) rfl ?_); refine box_event ?hg (N := 2) ?hd (cs := #[.int .i64 0, .slice none 0 0]) (t := 24) ?hr ?_; (case hd => rfl); (case hg => rfl); (case hr => first | (go_simp; done) | (go_simp; rfl)); intro gb310 hg w62 hbox hb; have n0_ := Aside0.mk (IsS85.below (by repeat (first | (with_reducible first | exact HI0.out | apply IsS85.alloc | apply IsS85.drewN | apply IsS85.drew | apply IsS85.set_1 | apply IsS85.set_2) | exact HI0.out)) hb); have n1_ := Aside0.mk (KeepBut.trans (by repeat (first | (with_reducible first | exact HK.out | apply KeepBut.set_ | apply keep_drewN | apply keep_drew | apply keep_alloc) | exact HK.out)) (KeepBut.of_below hb g none) (.inl rfl)); have n2_ := Aside0.mk (below_step (by repeat (first | (with_reducible first | exact HB.out | apply below_alloc | apply pw_below_drewN | apply below_drew1 | refine below_set ?_ (IsS85.ge HI0.out)) | exact HB.out)) hb); have n3_ := Aside0.mk (hbox); have n4_ := Aside0.mk ((by rw [hg]; exact (keep_size (w := w) (g := g) (row := none) (by repeat (first | (with_reducible first | exact HK.out | apply KeepBut.set_ | apply keep_drewN | apply keep_drew | apply keep_alloc) | exact HK.out))) : w.heap.size ≤ gb310)); have n5_ := Aside0.mk ((Nat.le_trans HW0.out (by rw [hg]; exact (keep_size (w := w) (g := g) (row := none) (by repeat (first | (with_reducible first | exact HK.out | apply KeepBut.set_ | apply keep_drewN | apply keep_drew | apply keep_alloc) | exact HK.out))) : w.heap.size ≤ gb310) : w0.heap.size ≤ gb310)); have n6_ := Aside0.mk ((by rw [hg]; exact Nat.ne_of_lt (IsS85.lt (show IsS85 w0 _ g s0_0 s0_1 s0_2 from by repeat (first | (with_reducible first | exact HI0.out | apply IsS85.alloc | apply IsS85.drewN | apply IsS85.drew | apply IsS85.set_1 | apply IsS85.set_2) | exact HI0.out))) : g ≠ gb310)); have n7_ := Aside0.mk ((by rw [hg]; exact Nat.ne_of_gt (IsS85.lt (show IsS85 w0 _ g s0_0 s0_1 s0_2 from by repeat (first | (with_reducible first | exact HI0.out | apply IsS85.alloc | apply IsS85.drewN | apply IsS85.drew | apply IsS85.set_1 | apply IsS85.set_2) | exact HI0.out))) : gb310 ≠ g)); clear HI0; clear HK; clear HB; have HI0 := n0_; have HK := n1_; have HB := n2_; have BK310 := n3_; have GW310 := n4_; have GE310 := n5_; have NB0_310 := n6_; have NB310_0 := n7_; clear n0_ n1_ n2_ n3_ n4_ n5_ n6_ n7_; clear hb hbox hg) | ((with_reducible refine gate_callee (f := 82) rfl ?_); refine goesL_ (some 5) rfl rfl Try.func82 (by kernel_rfl) rfl #[.pointer (some ⟨g, 0, none⟩)] rfl mt_ ?_; (with_reducible refine (spec_l01Cur_slab.calls k g s0_0 s0_1 s0_2 t311 t312 t315 t316 w0 _ ?side1 ?side2 A2.out).mono ?_); (case side1 => repeat (first | (with_reducible first | exact HI0.out | apply IsS85.alloc | apply IsS85.drewN | apply IsS85.drew | apply IsS85.set_1 | apply IsS85.set_2 | refine IsS85.far ?_ NB0_310.out _) | exact HI0.out)); (case side2 => repeat (first | (with_reducible first | exact HB.out | apply below_alloc | apply pw_below_drewN | apply below_drew1 | refine below_set ?_ (IsS85.ge HI0.out) | refine below_set ?_ GE310.out) | exact HB.out)); rintro e w63 ⟨v313, rfl, ho0, hi, hb, hk⟩; refine ⟨_, rfl, ?_⟩; have n0_ := Aside0.mk (KeepBut.blk hk (g' := gb310) (o := .cells #[.int .i64 0, .slice none 0 0] 24 (0, 0)) (bk_ BK310) NB310_0.out (by simp)); have n1_ := Aside0.mk (Kd.R_lower ho0 (keep_size (w := w) (g := g) (row := none) (by repeat (first | (with_reducible first | exact HK.out | apply KeepBut.set_ | apply keep_drewN | apply keep_drew | apply keep_alloc | refine keep_far ?_ GW310.out _) | exact HK.out)))); have n2_ := Aside0.mk (KeepBut.trans (by repeat (first | (with_reducible first | exact HK.out | apply KeepBut.set_ | apply keep_drewN | apply keep_drew | apply keep_alloc | refine keep_far ?_ GW310.out _) | exact HK.out)) hk (.inl rfl)); have n3_ := Aside0.mk (hb); have n4_ := Aside0.mk (hi); clear BK310; clear HK; clear HB; clear HI0; have BK310 := n0_; have HO314 := n1_; have HK := n2_; have HB := n3_; have HI0 := n4_; clear n0_ n1_ n2_ n3_ n4_; (try clear hb); (try clear hb2); (try clear hk); (try clear hi); (try clear ho0)) | ((with_reducible refine gate_dst (N := 3) rfl ?_); refine box_event ?hg (N := 3) ?hd (cs := #[.int .i64 0, .slice none 0 0]) (t := 24) ?hr ?_; (case hd => rfl); (case hg => rfl); (case hr => first | (go_simp; done) | (go_simp; rfl)); intro gb317 hg w64 hbox hb; have n0_ := Aside0.mk (Kd.R_below (kr_ HO314) hb); have n1_ := Aside0.mk (IsS85.below (by repeat (first | (with_reducible first | exact HI0.out | apply IsS85.alloc | apply IsS85.drewN | apply IsS85.drew | apply IsS85.set_1 | apply IsS85.set_2 | refine IsS85.far ?_ NB0_310.out _) | exact HI0.out)) hb); have n2_ := Aside0.mk (blk_below (g := gb310) (o := .cells #[.int .i64 0, .slice none 0 0] 24 (0, 0)) (bk_ BK310) hb); have n3_ := Aside0.mk (KeepBut.trans (by repeat (first | (with_reducible first | exact HK.out | apply KeepBut.set_ | apply keep_drewN | apply keep_drew | apply keep_alloc | refine keep_far ?_ GW310.out _) | exact HK.out)) (KeepBut.of_below hb g none) (.inl rfl)); have n4_ := Aside0.mk (below_step (by repeat (first | (with_reducible first | exact HB.out | apply below_alloc | apply pw_below_drewN | apply below_drew1 | refine below_set ?_ (IsS85.ge HI0.out) | refine below_set ?_ GE310.out) | exact HB.out)) hb); have n5_ := Aside0.mk (hbox); have n6_ := Aside0.mk ((by rw [hg]; exact (keep_size (w := w) (g := g) (row := none) (by repeat (first | (with_reducible first | exact HK.out | apply KeepBut.set_ | apply keep_drewN | apply keep_drew | apply keep_alloc | refine keep_far ?_ GW310.out _) | exact HK.out))) : w.heap.size ≤ gb317)); have n7_ := Aside0.mk ((Nat.le_trans HW0.out (by rw [hg]; exact (keep_size (w := w) (g := g) (row := none) (by repeat (first | (with_reducible first | exact HK.out | apply KeepBut.set_ | apply keep_drewN | apply keep_drew | apply keep_alloc | refine keep_far ?_ GW310.out _) | exact HK.out))) : w.heap.size ≤ gb317) : w0.heap.size ≤ gb317)); have n8_ := Aside0.mk ((by rw [hg]; exact Nat.ne_of_lt (blk_lt (g := gb310) (o := .cells #[.int .i64 0, .slice none 0 0] 24 (0, 0)) (bk_ BK310)) : gb310 ≠ gb317)); have n9_ := Aside0.mk ((by rw [hg]; exact Nat.ne_of_gt (blk_lt (g := gb310) (o := .cells #[.int .i64 0, .slice none 0 0] 24 (0, 0)) (bk_ BK310)) : gb317 ≠ gb310)); have n10_ := Aside0.mk ((by rw [hg]; exact Nat.ne_of_lt (IsS85.lt (show IsS85 w0 _ g s0_0 t315 t316 from by repeat (first | (with_reducible first | exact HI0.out | apply IsS85.alloc | apply IsS85.drewN | apply IsS85.drew | apply IsS85.set_1 | apply IsS85.set_2 | refine IsS85.far ?_ NB0_310.out _) | exact HI0.out))) : g ≠ gb317)); have n11_ := Aside0.mk ((by rw [hg]; exact Nat.ne_of_gt (IsS85.lt (show IsS85 w0 _ g s0_0 t315 t316 from by repeat (first | (with_reducible first | exact HI0.out | apply IsS85.alloc | apply IsS85.drewN | apply IsS85.drew | apply IsS85.set_1 | apply IsS85.set_2 | refine IsS85.far ?_ NB0_310.out _) | exact HI0.out))) : gb317 ≠ g)); clear HO314; clear HI0; clear BK310; clear HK; clear HB; have HO314 := n0_; have HI0 := n1_; have BK310 := n2_; have HK := n3_; have HB := n4_; have BK317 := n5_; have GW317 := n6_; have GE317 := n7_; have NB310_317 := n8_; have NB317_310 := n9_; have NB0_317 := n10_; have NB317_0 := n11_; clear n0_ n1_ n2_ n3_ n4_ n5_ n6_ n7_ n8_ n9_ n10_ n11_; clear hb hbox hg; have hnb65 := NB317_310.out; have hnc65 := NB310_317.out; have hnb66 := NB317_0.out; have hnc66 := NB0_317.out; have hcz67_0 : w64.cell? ⟨gb317, 0, none⟩ = some (.int .i64 0) := (blk_cell BK317.out 0).trans rfl; have hcz67_1 : w64.cell? ⟨gb317, 1, none⟩ = some (.slice none 0 0) := (blk_cell BK317.out 1).trans rfl; have hfz67_0 := blk_frozen BK317.out 0; have hfz67_1 := blk_frozen BK317.out 1; obtain ⟨Ao68, co68, eo68⟩ := Kd.R_slice HO314.out; subst eo68) | ((with_reducible refine gate_callee (f := 77) rfl ?_); refine goesL_ (some 7) rfl rfl Try.func77 (by kernel_rfl) rfl #[.pointer (some ⟨g, 0, none⟩), .int .i64 12] rfl mt_ ?_; (with_reducible refine (spec_l01Cur_pick.calls g s0_0 t315 t316 12 t318 t319 t320 w0 _ ?side1 ?side2 A3.out).mono ?_); (case side1 => repeat (first | (with_reducible first | exact HI0.out | apply IsS85.alloc | apply IsS85.drewN | apply IsS85.drew | apply IsS85.set_1 | apply IsS85.set_2 | refine IsS85.far ?_ NB0_310.out _ | refine IsS85.far ?_ NB0_317.out _) | exact HI0.out)); (case side2 => repeat (first | (with_reducible first | exact HB.out | apply below_alloc | apply pw_below_drewN | apply below_drew1 | refine below_set ?_ (IsS85.ge HI0.out) | refine below_set ?_ GE310.out | refine below_set ?_ GE317.out) | exact HB.out)); rintro e w69 ⟨rfl, hi, hb, hk⟩; refine ⟨_, rfl, ?_⟩; have n0_ := Aside0.mk (KeepBut.blk hk (g' := gb310) (o := .cells #[.int .i64 0, .slice none 0 0] 24 (0, 0)) (by (with_reducible repeat (first | refine blk_drewN ?_ _ | refine blk_drew ?_ | refine blk_alloc ?_ _)); refine blk_far ?_ NB310_317.out _; (with_reducible repeat (first | refine blk_drewN ?_ _ | refine blk_drew ?_ | refine blk_alloc ?_ _)); refine blk_far ?_ NB310_317.out _; exact bk_ BK310) NB310_0.out (by simp)); have n1_ := Aside0.mk (Kd.R_mono (Kd.R_keep (IsS85.apart (show IsS85 w0 _ g s0_0 t315 t316 from by repeat (first | (with_reducible first | exact HI0.out | apply IsS85.alloc | apply IsS85.drewN | apply IsS85.drew | apply IsS85.set_1 | apply IsS85.set_2 | refine IsS85.far ?_ NB0_310.out _ | refine IsS85.far ?_ NB0_317.out _) | exact HI0.out)) (by (with_reducible repeat (first | apply Kd.R_alloc | apply Kd.R_drewN | apply Kd.R_drew)); exact (Kd.R_mono (Kd.R_far (p := ⟨gb317, 1, none⟩) (Kd.R_far (p := ⟨gb317, 0, none⟩) (Kd.R_types HO314.out BK317.out (by decide)) (fun _ hk => by first | exact hk.2 | grind) (.int .i64 t311)) (fun _ hk => by first | exact hk.2 | grind) (.slice Ao68 t312.length co68)) (fun _ h_ => h_.1))) (by decide)) hk (fun _ h => h.2)) (fun _ h => h.1)); have n2_ := Aside0.mk (KeepBut.blk hk (g' := gb317) (o := .cells #[.int .i64 t311, .slice Ao68 t312.length co68] 24 (0, 0)) (by (with_reducible repeat (first | refine blk_drewN ?_ _ | refine blk_drew ?_ | refine blk_alloc ?_ _)); refine blk_put (cs := #[.int .i64 t311, .slice none 0 0]) ?_ 1 _ rfl; (with_reducible repeat (first | refine blk_drewN ?_ _ | refine blk_drew ?_ | refine blk_alloc ?_ _)); refine blk_put (cs := #[.int .i64 0, .slice none 0 0]) ?_ 0 _ rfl; exact bk_ BK317) NB317_0.out (by simp)); have n3_ := Aside0.mk (KeepBut.trans (by repeat (first | (with_reducible first | exact HK.out | apply KeepBut.set_ | apply keep_drewN | apply keep_drew | apply keep_alloc | refine keep_far ?_ GW310.out _ | refine keep_far ?_ GW317.out _) | exact HK.out)) hk (.inl rfl)); have n4_ := Aside0.mk (hb); have n5_ := Aside0.mk (hi); clear BK310; clear HO314; clear BK317; clear HK; clear HB; clear HI0; have BK310 := n0_; have HO314 := n1_; have BK317 := n2_; have HK := n3_; have HB := n4_; have HI0 := n5_; clear n0_ n1_ n2_ n3_ n4_ n5_; (try clear hb); (try clear hb2); (try clear hk); (try clear hi); have hcz70_0 : w69.cell? ⟨gb317, 0, none⟩ = some (.int .i64 t311) := (blk_cell BK317.out 0).trans rfl; have hcz70_1 : w69.cell? ⟨gb317, 1, none⟩ = some (.slice Ao68 t312.length co68) := (blk_cell BK317.out 1).trans rfl; have hfz70_0 := blk_frozen BK317.out 0; have hfz70_1 := blk_frozen BK317.out 1; have hnb71 := NB310_0.out; have hnc71 := NB0_310.out; have hcz72_0 : w69.cell? ⟨gb310, 0, none⟩ = some (.int .i64 0) := (blk_cell BK310.out 0).trans rfl; have hcz72_1 : w69.cell? ⟨gb310, 1, none⟩ = some (.slice none 0 0) := (blk_cell BK310.out 1).trans rfl; have hfz72_0 := blk_frozen BK310.out 0; have hfz72_1 := blk_frozen BK310.out 1))
    refine bodyPost_ret (results_cell_row rfl _ _ gb310 24 #[.int .i64 t311, .slice Ao68 t312.length co68] (0, 0) _ rfl (by (with_reducible repeat (first | refine blk_drewN ?_ _ | refine blk_drew ?_ | refine blk_alloc ?_ _)); refine blk_put (cs := #[.int .i64 t311, .slice none 0 0]) ?_ 1 _ rfl; (with_reducible repeat (first | refine blk_drewN ?_ _ | refine blk_drew ?_ | refine blk_alloc ?_ _)); refine blk_put (cs := #[.int .i64 0, .slice none 0 0]) ?_ 0 _ rfl; exact bk_ BK310) Try.underlying24 rfl (by kernel_rfl)) rfl ?_
    exact ⟨_, by first | rfl | (simp [errW_none, errW_some] <;> rfl) | (simp [*, errW_none, errW_some] <;> rfl), by (with_reducible repeat (first | apply Kd.R_alloc | apply Kd.R_drewN | apply Kd.R_drew)); exact Kd.R_mono (Kd.R_far (p := ⟨gb310, 1, none⟩) (Kd.R_far (p := ⟨gb310, 0, none⟩) (Kd.R_types HO314.out BK310.out (by decide)) (fun _ hk => by first | exact hk.2 | grind) (.int .i64 t311)) (fun _ hk => by first | exact hk.2 | grind) (.slice Ao68 t312.length co68)) (fun _ hk => by first | exact trivial | grind), by repeat (first | (with_reducible first | exact HI0.out | apply IsS85.alloc | apply IsS85.drewN | apply IsS85.drew | apply IsS85.set_1 | apply IsS85.set_2 | refine IsS85.far ?_ NB0_310.out _ | refine IsS85.far ?_ NB0_317.out _) | exact HI0.out), by repeat (first | (with_reducible first | exact HB.out | apply below_alloc | apply pw_below_drewN | apply below_drew1 | refine below_set ?_ (IsS85.ge HI0.out) | refine below_set ?_ GE310.out | refine below_set ?_ GE317.out) | exact HB.out), by repeat (first | (with_reducible first | exact HK.out | apply KeepBut.set_ | apply keep_drewN | apply keep_drew | apply keep_alloc | refine keep_far ?_ GW310.out _ | refine keep_far ?_ GW317.out _) | exact HK.out)⟩
  ·rw [if_neg c27] at H
   have c27b0 : (t318 == 1) = false := beq_eq_false_iff_ne.mpr c27
   have c27b1 : (t318 != 1) = true := bne_iff_ne.mpr c27
   by_cases c73 : t318 = 2
   ·rw [if_pos c73] at H
    have c73b0 : (t318 == 2) = true := beq_iff_eq.mpr c73
    have c73b1 : (t318 != 2) = false := bne_eq_false_iff_eq.mpr c73
    clear c73
    have H' := Aside0.mk H
    clear H
    go_enter Try.func76, Try.ntmps76
    go_wp2_with (first | ((with_reducible refine gate_dst (N := 2) rfl ?_); refine box_event ?hg (N := 2) ?hd (cs := #[.int .i64 0, .slice none 0 0]) (t := 24) ?hr ?_; (case hd => rfl); (case hg => rfl); (case hr => first | (go_simp; done) | (go_simp; rfl)); intro gb310 hg w74 hbox hb; have n0_ := Aside0.mk (IsS85.below (by repeat (first | (with_reducible first | exact HI0.out | apply IsS85.alloc | apply IsS85.drewN | apply IsS85.drew | apply IsS85.set_1 | apply IsS85.set_2) | exact HI0.out)) hb); have n1_ := Aside0.mk (KeepBut.trans (by repeat (first | (with_reducible first | exact HK.out | apply KeepBut.set_ | apply keep_drewN | apply keep_drew | apply keep_alloc) | exact HK.out)) (KeepBut.of_below hb g none) (.inl rfl)); have n2_ := Aside0.mk (below_step (by repeat (first | (with_reducible first | exact HB.out | apply below_alloc | apply pw_below_drewN | apply below_drew1 | refine below_set ?_ (IsS85.ge HI0.out)) | exact HB.out)) hb); have n3_ := Aside0.mk (hbox); have n4_ := Aside0.mk ((by rw [hg]; exact (keep_size (w := w) (g := g) (row := none) (by repeat (first | (with_reducible first | exact HK.out | apply KeepBut.set_ | apply keep_drewN | apply keep_drew | apply keep_alloc) | exact HK.out))) : w.heap.size ≤ gb310)); have n5_ := Aside0.mk ((Nat.le_trans HW0.out (by rw [hg]; exact (keep_size (w := w) (g := g) (row := none) (by repeat (first | (with_reducible first | exact HK.out | apply KeepBut.set_ | apply keep_drewN | apply keep_drew | apply keep_alloc) | exact HK.out))) : w.heap.size ≤ gb310) : w0.heap.size ≤ gb310)); have n6_ := Aside0.mk ((by rw [hg]; exact Nat.ne_of_lt (IsS85.lt (show IsS85 w0 _ g s0_0 s0_1 s0_2 from by repeat (first | (with_reducible first | exact HI0.out | apply IsS85.alloc | apply IsS85.drewN | apply IsS85.drew | apply IsS85.set_1 | apply IsS85.set_2) | exact HI0.out))) : g ≠ gb310)); have n7_ := Aside0.mk ((by rw [hg]; exact Nat.ne_of_gt (IsS85.lt (show IsS85 w0 _ g s0_0 s0_1 s0_2 from by repeat (first | (with_reducible first | exact HI0.out | apply IsS85.alloc | apply IsS85.drewN | apply IsS85.drew | apply IsS85.set_1 | apply IsS85.set_2) | exact HI0.out))) : gb310 ≠ g)); clear HI0; clear HK; clear HB; have HI0 := n0_; have HK := n1_; have HB := n2_; have BK310 := n3_; have GW310 := n4_; have GE310 := n5_; have NB0_310 := n6_; have NB310_0 := n7_; clear n0_ n1_ n2_ n3_ n4_ n5_ n6_ n7_; clear hb hbox hg) | ((with_reducible refine gate_callee (f := 82) rfl ?_); refine goesL_ (some 5) rfl rfl Try.func82 (by kernel_rfl) rfl #[.pointer (some ⟨g, 0, none⟩)] rfl mt_ ?_; (with_reducible refine (spec_l01Cur_slab.calls k g s0_0 s0_1 s0_2 t311 t312 t315 t316 w0 _ ?side1 ?side2 A2.out).mono ?_); (case side1 => repeat (first | (with_reducible first | exact HI0.out | apply IsS85.alloc | apply IsS85.drewN | apply IsS85.drew | apply IsS85.set_1 | apply IsS85.set_2 | refine IsS85.far ?_ NB0_310.out _) | exact HI0.out)); (case side2 => repeat (first | (with_reducible first | exact HB.out | apply below_alloc | apply pw_below_drewN | apply below_drew1 | refine below_set ?_ (IsS85.ge HI0.out) | refine below_set ?_ GE310.out) | exact HB.out)); rintro e w75 ⟨v313, rfl, ho0, hi, hb, hk⟩; refine ⟨_, rfl, ?_⟩; have n0_ := Aside0.mk (KeepBut.blk hk (g' := gb310) (o := .cells #[.int .i64 0, .slice none 0 0] 24 (0, 0)) (bk_ BK310) NB310_0.out (by simp)); have n1_ := Aside0.mk (Kd.R_lower ho0 (keep_size (w := w) (g := g) (row := none) (by repeat (first | (with_reducible first | exact HK.out | apply KeepBut.set_ | apply keep_drewN | apply keep_drew | apply keep_alloc | refine keep_far ?_ GW310.out _) | exact HK.out)))); have n2_ := Aside0.mk (KeepBut.trans (by repeat (first | (with_reducible first | exact HK.out | apply KeepBut.set_ | apply keep_drewN | apply keep_drew | apply keep_alloc | refine keep_far ?_ GW310.out _) | exact HK.out)) hk (.inl rfl)); have n3_ := Aside0.mk (hb); have n4_ := Aside0.mk (hi); clear BK310; clear HK; clear HB; clear HI0; have BK310 := n0_; have HO314 := n1_; have HK := n2_; have HB := n3_; have HI0 := n4_; clear n0_ n1_ n2_ n3_ n4_; (try clear hb); (try clear hb2); (try clear hk); (try clear hi); (try clear ho0)) | ((with_reducible refine gate_dst (N := 3) rfl ?_); refine box_event ?hg (N := 3) ?hd (cs := #[.int .i64 0, .slice none 0 0]) (t := 24) ?hr ?_; (case hd => rfl); (case hg => rfl); (case hr => first | (go_simp; done) | (go_simp; rfl)); intro gb317 hg w76 hbox hb; have n0_ := Aside0.mk (Kd.R_below (kr_ HO314) hb); have n1_ := Aside0.mk (IsS85.below (by repeat (first | (with_reducible first | exact HI0.out | apply IsS85.alloc | apply IsS85.drewN | apply IsS85.drew | apply IsS85.set_1 | apply IsS85.set_2 | refine IsS85.far ?_ NB0_310.out _) | exact HI0.out)) hb); have n2_ := Aside0.mk (blk_below (g := gb310) (o := .cells #[.int .i64 0, .slice none 0 0] 24 (0, 0)) (bk_ BK310) hb); have n3_ := Aside0.mk (KeepBut.trans (by repeat (first | (with_reducible first | exact HK.out | apply KeepBut.set_ | apply keep_drewN | apply keep_drew | apply keep_alloc | refine keep_far ?_ GW310.out _) | exact HK.out)) (KeepBut.of_below hb g none) (.inl rfl)); have n4_ := Aside0.mk (below_step (by repeat (first | (with_reducible first | exact HB.out | apply below_alloc | apply pw_below_drewN | apply below_drew1 | refine below_set ?_ (IsS85.ge HI0.out) | refine below_set ?_ GE310.out) | exact HB.out)) hb); have n5_ := Aside0.mk (hbox); have n6_ := Aside0.mk ((by rw [hg]; exact (keep_size (w := w) (g := g) (row := none) (by repeat (first | (with_reducible first | exact HK.out | apply KeepBut.set_ | apply keep_drewN | apply keep_drew | apply keep_alloc | refine keep_far ?_ GW310.out _) | exact HK.out))) : w.heap.size ≤ gb317)); have n7_ := Aside0.mk ((Nat.le_trans HW0.out (by rw [hg]; exact (keep_size (w := w) (g := g) (row := none) (by repeat (first | (with_reducible first | exact HK.out | apply KeepBut.set_ | apply keep_drewN | apply keep_drew | apply keep_alloc | refine keep_far ?_ GW310.out _) | exact HK.out))) : w.heap.size ≤ gb317) : w0.heap.size ≤ gb317)); have n8_ := Aside0.mk ((by rw [hg]; exact Nat.ne_of_lt (blk_lt (g := gb310) (o := .cells #[.int .i64 0, .slice none 0 0] 24 (0, 0)) (bk_ BK310)) : gb310 ≠ gb317)); have n9_ := Aside0.mk ((by rw [hg]; exact Nat.ne_of_gt (blk_lt (g := gb310) (o := .cells #[.int .i64 0, .slice none 0 0] 24 (0, 0)) (bk_ BK310)) : gb317 ≠ gb310)); have n10_ := Aside0.mk ((by rw [hg]; exact Nat.ne_of_lt (IsS85.lt (show IsS85 w0 _ g s0_0 t315 t316 from by repeat (first | (with_reducible first | exact HI0.out | apply IsS85.alloc | apply IsS85.drewN | apply IsS85.drew | apply IsS85.set_1 | apply IsS85.set_2 | refine IsS85.far ?_ NB0_310.out _) | exact HI0.out))) : g ≠ gb317)); have n11_ := Aside0.mk ((by rw [hg]; exact Nat.ne_of_gt (IsS85.lt (show IsS85 w0 _ g s0_0 t315 t316 from by repeat (first | (with_reducible first | exact HI0.out | apply IsS85.alloc | apply IsS85.drewN | apply IsS85.drew | apply IsS85.set_1 | apply IsS85.set_2 | refine IsS85.far ?_ NB0_310.out _) | exact HI0.out))) : gb317 ≠ g)); clear HO314; clear HI0; clear BK310; clear HK; clear HB; have HO314 := n0_; have HI0 := n1_; have BK310 := n2_; have HK := n3_; have HB := n4_; have BK317 := n5_; have GW317 := n6_; have GE317 := n7_; have NB310_317 := n8_; have NB317_310 := n9_; have NB0_317 := n10_; have NB317_0 := n11_; clear n0_ n1_ n2_ n3_ n4_ n5_ n6_ n7_ n8_ n9_ n10_ n11_; clear hb hbox hg; have hnb77 := NB317_310.out; have hnc77 := NB310_317.out; have hnb78 := NB317_0.out; have hnc78 := NB0_317.out; have hcz79_0 : w76.cell? ⟨gb317, 0, none⟩ = some (.int .i64 0) := (blk_cell BK317.out 0).trans rfl; have hcz79_1 : w76.cell? ⟨gb317, 1, none⟩ = some (.slice none 0 0) := (blk_cell BK317.out 1).trans rfl; have hfz79_0 := blk_frozen BK317.out 0; have hfz79_1 := blk_frozen BK317.out 1; obtain ⟨Ao80, co80, eo80⟩ := Kd.R_slice HO314.out; subst eo80) | ((with_reducible refine gate_callee (f := 77) rfl ?_); refine goesL_ (some 7) rfl rfl Try.func77 (by kernel_rfl) rfl #[.pointer (some ⟨g, 0, none⟩), .int .i64 12] rfl mt_ ?_; (with_reducible refine (spec_l01Cur_pick.calls g s0_0 t315 t316 12 t318 t319 t320 w0 _ ?side1 ?side2 A3.out).mono ?_); (case side1 => repeat (first | (with_reducible first | exact HI0.out | apply IsS85.alloc | apply IsS85.drewN | apply IsS85.drew | apply IsS85.set_1 | apply IsS85.set_2 | refine IsS85.far ?_ NB0_310.out _ | refine IsS85.far ?_ NB0_317.out _) | exact HI0.out)); (case side2 => repeat (first | (with_reducible first | exact HB.out | apply below_alloc | apply pw_below_drewN | apply below_drew1 | refine below_set ?_ (IsS85.ge HI0.out) | refine below_set ?_ GE310.out | refine below_set ?_ GE317.out) | exact HB.out)); rintro e w81 ⟨rfl, hi, hb, hk⟩; refine ⟨_, rfl, ?_⟩; have n0_ := Aside0.mk (KeepBut.blk hk (g' := gb310) (o := .cells #[.int .i64 0, .slice none 0 0] 24 (0, 0)) (by (with_reducible repeat (first | refine blk_drewN ?_ _ | refine blk_drew ?_ | refine blk_alloc ?_ _)); refine blk_far ?_ NB310_317.out _; (with_reducible repeat (first | refine blk_drewN ?_ _ | refine blk_drew ?_ | refine blk_alloc ?_ _)); refine blk_far ?_ NB310_317.out _; exact bk_ BK310) NB310_0.out (by simp)); have n1_ := Aside0.mk (Kd.R_mono (Kd.R_keep (IsS85.apart (show IsS85 w0 _ g s0_0 t315 t316 from by repeat (first | (with_reducible first | exact HI0.out | apply IsS85.alloc | apply IsS85.drewN | apply IsS85.drew | apply IsS85.set_1 | apply IsS85.set_2 | refine IsS85.far ?_ NB0_310.out _ | refine IsS85.far ?_ NB0_317.out _) | exact HI0.out)) (by (with_reducible repeat (first | apply Kd.R_alloc | apply Kd.R_drewN | apply Kd.R_drew)); exact (Kd.R_mono (Kd.R_far (p := ⟨gb317, 1, none⟩) (Kd.R_far (p := ⟨gb317, 0, none⟩) (Kd.R_types HO314.out BK317.out (by decide)) (fun _ hk => by first | exact hk.2 | grind) (.int .i64 t311)) (fun _ hk => by first | exact hk.2 | grind) (.slice Ao80 t312.length co80)) (fun _ h_ => h_.1))) (by decide)) hk (fun _ h => h.2)) (fun _ h => h.1)); have n2_ := Aside0.mk (KeepBut.blk hk (g' := gb317) (o := .cells #[.int .i64 t311, .slice Ao80 t312.length co80] 24 (0, 0)) (by (with_reducible repeat (first | refine blk_drewN ?_ _ | refine blk_drew ?_ | refine blk_alloc ?_ _)); refine blk_put (cs := #[.int .i64 t311, .slice none 0 0]) ?_ 1 _ rfl; (with_reducible repeat (first | refine blk_drewN ?_ _ | refine blk_drew ?_ | refine blk_alloc ?_ _)); refine blk_put (cs := #[.int .i64 0, .slice none 0 0]) ?_ 0 _ rfl; exact bk_ BK317) NB317_0.out (by simp)); have n3_ := Aside0.mk (KeepBut.trans (by repeat (first | (with_reducible first | exact HK.out | apply KeepBut.set_ | apply keep_drewN | apply keep_drew | apply keep_alloc | refine keep_far ?_ GW310.out _ | refine keep_far ?_ GW317.out _) | exact HK.out)) hk (.inl rfl)); have n4_ := Aside0.mk (hb); have n5_ := Aside0.mk (hi); clear BK310; clear HO314; clear BK317; clear HK; clear HB; clear HI0; have BK310 := n0_; have HO314 := n1_; have BK317 := n2_; have HK := n3_; have HB := n4_; have HI0 := n5_; clear n0_ n1_ n2_ n3_ n4_ n5_; (try clear hb); (try clear hb2); (try clear hk); (try clear hi)))
    go_loopg [] k (fun kq w' => ∃ (x1001_1 : Int) (x1002_1 : Int) (x318001_1 : List Int) (u318001 : Value), Aside0 (spec_l01Cur_badSlab.l0 kq s0_0 x1001_1 x1002_1 t311 x318001_1 = some (r1, r2, r3, r4)) ∧ Aside0 (kq ≤ k) ∧ Aside0 (Kd.R (Kd.int .i64) 3 w' w.heap.size (fun _ => True) u318001 x318001_1) ∧ Aside0 (w'.heap[gb310]? = some (.cells #[.int .i64 0, (.slice none 0 0)] 24 (0, 0))) ∧ Aside0 (w'.heap[gb317]? = some (.cells #[.int .i64 t311, u318001] 24 (0, 0))) ∧ Aside0 (IsS85 w0 w' g s0_0 x1001_1 x1002_1) ∧ Aside0 (KeepBut w w' g none) ∧ Aside0 (Below w0.heap.size w0 w'))
    case atStart => exact ⟨(t319), (t320), (t312), (.slice Ao80 t312.length co80), H', ⟨Nat.le_refl _⟩, ⟨kr_ HO314⟩, ⟨bk_ BK310⟩, ⟨bk_ BK317⟩, ⟨by repeat (first | (with_reducible first | exact HI0.out | apply IsS85.alloc | apply IsS85.drewN | apply IsS85.drew | apply IsS85.set_1 | apply IsS85.set_2 | refine IsS85.far ?_ NB0_310.out _ | refine IsS85.far ?_ NB0_317.out _) | exact HI0.out)⟩, ⟨by repeat (first | (with_reducible first | exact HK.out | apply KeepBut.set_ | apply keep_drewN | apply keep_drew | apply keep_alloc | refine keep_far ?_ GW310.out _ | refine keep_far ?_ GW317.out _) | exact HK.out)⟩, ⟨by repeat (first | (with_reducible first | exact HB.out | apply below_alloc | apply pw_below_drewN | apply below_drew1 | refine below_set ?_ (IsS85.ge HI0.out) | refine below_set ?_ GE310.out | refine below_set ?_ GE317.out) | exact HB.out)⟩⟩
    case round =>
     clear H'
     try clear c2
     try clear p2
     try clear c3
     try clear p3
     try clear q3
     try clear hx3
     try clear qi3
     try clear hf3
     try clear c4
     try clear c6
     try clear c7
     try clear c8
     try clear c27
     try clear c27b0
     try clear c27b1
     try clear c28
     try clear c28b0
     try clear c28b1
     try clear c33
     try clear c33b0
     try clear c34
     try clear c34b0
     try clear p34
     try clear q34
     try clear hx34
     try clear qi34
     try clear c35
     try clear c35b0
     try clear c36
     try clear c36b0
     try clear p37
     try clear q37
     try clear hx37
     try clear hf37
     try clear c41
     try clear c42
     try clear c60
     try clear c65
     try clear c66
     try clear c71
     try clear c73
     try clear c73b0
     try clear c73b1
     try clear c76
     try clear c77
     try clear c78
     try clear hcz43_0
     try clear hcz43_1
     try clear hcz46_0
     try clear hcz46_1
     try clear hcz59_0
     try clear hcz59_1
     try clear hcz61_0
     try clear hcz61_1
     try clear hcz67_0
     try clear hcz67_1
     try clear hcz70_0
     try clear hcz70_1
     try clear hcz72_0
     try clear hcz72_1
     try clear hcz79_0
     try clear hcz79_1
     try clear hfz43_0
     try clear hfz43_1
     try clear hfz46_0
     try clear hfz46_1
     try clear hfz59_0
     try clear hfz59_1
     try clear hfz61_0
     try clear hfz61_1
     try clear hfz67_0
     try clear hfz67_1
     try clear hfz70_0
     try clear hfz70_1
     try clear hfz72_0
     try clear hfz72_1
     try clear hfz79_0
     try clear hfz79_1
     try clear hx349_0
     try clear hx37_0
     try clear p349
     try clear p37
     try clear q349
     try clear q37
     obtain ⟨x1001_1, x1002_1, x318001_1, u318001, HA, HK1, HO_318001, BK310, BK317, HI0, HK, HB⟩ := hrel
     cases gk with
     | zero => exact absurd HA.out (by simp [spec_l01Cur_badSlab.l0])
     | succ k1 =>
      have H := HA.out
      clear HA
      simp only [spec_l01Cur_badSlab.l0] at H
      replace H := Option.bind_eq_some_iff.mp H
      obtain ⟨⟨t351, t352, t353⟩, A820, H⟩ := H
      replace H : (if (x318001_1.length : Int) < (wrap64 (128 + t351)) then (if x318001_1.length < 17592186044416 then (spec_l01Cur_badSlab.l0 k1 s0_0 t352 t353 t311 (x318001_1 ++ [(-1)])) else (none)) else (some (t311, x318001_1, t352, t353))) = some (r1, r2, r3, r4) := H
      have A82 := Aside0.mk A820
      clear A820
      by_cases c83 : (x318001_1.length : Int) < (wrap64 (128 + t351))
      ·rw [if_pos c83] at H
       have c83b0 : decide ((x318001_1.length : Int) < (wrap64 (128 + t351))) = true := decide_eq_true c83
       clear c83
       by_cases c84 : x318001_1.length < 17592186044416
       ·rw [if_pos c84] at H
        have LMc84 := Aside0.mk c84
        clear c84
        obtain ⟨y354, hy354⟩ : ∃ y_ : List Int, y_ = (x318001_1 ++ [(-1)]) := ⟨_, rfl⟩
        replace H : (spec_l01Cur_badSlab.l0 k1 s0_0 t352 t353 t311 y354) = some (r1, r2, r3, r4) := by first | (rw [hy354]; with_reducible exact H) | (have H2_ := (Option.bind_some _ _).symm.trans H; rw [hy354]; with_reducible exact H2_) | (have H2_ := (Option.bind_some _ _).symm.trans H; with_reducible exact H2_) | with_reducible exact H | (rw [hy354]; exact H) | exact H
        have Ny354 := Aside0.mk hy354
        clear hy354
        have H' := Aside0.mk H
        clear H
        try go_wp2
        have n0_ := Aside0.mk (Kd.R_drew HO_318001.out)
        have n1_ := Aside0.mk (blk_drew BK310.out)
        have n2_ := Aside0.mk (blk_drew BK317.out)
        have n3_ := Aside0.mk (IsS85.drew HI0.out)
        have n4_ := Aside0.mk (keep_drew HK.out)
        have n5_ := Aside0.mk (below_drew1 HB.out)
        clear HO_318001
        clear BK310
        clear BK317
        clear HI0
        clear HK
        clear HB
        have HO_318001 := n0_
        have BK310 := n1_
        have BK317 := n2_
        have HI0 := n3_
        have HK := n4_
        have HB := n5_
        clear n0_ n1_ n2_ n3_ n4_ n5_
        obtain ⟨Ao86, co86, eo86⟩ := Kd.R_slice HO_318001.out
        (first | subst eo86 | (injection eo86 with f1_ f2_ f3_; have f4_ := f1_.symm; have f5_ := f3_.symm; clear f1_ f2_ f3_; subst f4_; subst f5_))
        refine start_ (n := 7) (S := fun w' => w'.cell? ⟨gb317, 0, none⟩ = some (.int .i64 t311) ∧ w'.cell? ⟨gb317, 1, none⟩ = some (.slice Ao86 x318001_1.length co86)) (ds := []) (bs 7 0) (by kernel_rfl) rfl rfl ⟨(blk_cell BK317.out 0).trans rfl, (blk_cell BK317.out 1).trans rfl⟩ (fun hHeld => ?_)
        generalize wr.drew = w85 at HO_318001 BK310 BK317 HI0 HK HB hHeld ⊢
        refine pure_s (i := 0) (N := some 48) (bs 7 1) (by kernel_rfl) (h := ?_)
        refine pure_s (i := 3) (N := some 51) #[oT,oF,oF,oT,oF,oF,oF] (by kernel_rfl) (h := ?_)
        refine take_ (i := 1) (N := some 49) (v := ?_) (a' := ?_) #[oT,oT,oF,oT,oF,oF,oF] rfl rfl (by kernel_rfl) (fun _ _ _ h => h) (Or.inl ⟨by rfl, ?_⟩) hHeld ?_ ?_
        rotate_left
        ·rintro w' ⟨s0, s1⟩
         go_simp
         with_reducible rfl
        rotate_left
        ·simp only [Act.put, List.setIfInBounds_toArray, List.set_cons_zero, List.set_cons_succ, i64_w, i32_w]
         rfl
        refine pure_s (i := 2) (N := some 50) (bs 7 4) (by kernel_rfl) (h := ?_)
        refine one_ (i := 4) (N := some 52) (bs 7 5) rfl rfl (by kernel_rfl) (by decide) (fun K hK => ?_)
        refine goes_ Try.func77 (by kernel_rfl) rfl #[.pointer (some ⟨g, 0, none⟩), .int .i64 2] (by rfl) rfl rfl mt_ ?_
        with_reducible refine (spec_l01Cur_pick.calls g s0_0 x1001_1 x1002_1 2 t351 t352 t353 w0 _ ?side1 ?side2 A82.out).mono ?_
        (case side1 => repeat (first | (with_reducible first | exact HI0.out | apply IsS85.alloc | apply IsS85.drewN | apply IsS85.drew | apply IsS85.set_1 | apply IsS85.set_2 | refine IsS85.far ?_ NB0_310.out _ | refine IsS85.far ?_ NB0_317.out _) | exact HI0.out))
        (case side2 => repeat (first | (with_reducible first | exact HB.out | apply below_alloc | apply pw_below_drewN | apply below_drew1 | refine below_set ?_ (IsS85.ge HI0.out) | refine below_set ?_ GE310.out | refine below_set ?_ GE317.out) | exact HB.out))
        rintro e w87 ⟨rfl, hi, hb, hk⟩
        refine ⟨_, rfl, ?_⟩
        have n0_ := Aside0.mk (Kd.R_mono (Kd.R_keep (IsS85.apart (show IsS85 w0 _ g s0_0 x1001_1 x1002_1 from by repeat (first | (with_reducible first | exact HI0.out | apply IsS85.alloc | apply IsS85.drewN | apply IsS85.drew | apply IsS85.set_1 | apply IsS85.set_2 | refine IsS85.far ?_ NB0_310.out _ | refine IsS85.far ?_ NB0_317.out _) | exact HI0.out)) (kr_ HO_318001) (by decide)) hk (fun _ h => h.2)) (fun _ h => h.1))
        have n1_ := Aside0.mk (KeepBut.blk hk (g' := gb310) (o := .cells #[.int .i64 0, .slice none 0 0] 24 (0, 0)) (bk_ BK310) NB310_0.out (by simp))
        have n2_ := Aside0.mk (KeepBut.blk hk (g' := gb317) (o := .cells #[.int .i64 t311, .slice Ao86 x318001_1.length co86] 24 (0, 0)) (bk_ BK317) NB317_0.out (by simp))
        have n3_ := Aside0.mk (KeepBut.trans (by repeat (first | (with_reducible first | exact HK.out | apply KeepBut.set_ | apply keep_drewN | apply keep_drew | apply keep_alloc | refine keep_far ?_ GW310.out _ | refine keep_far ?_ GW317.out _) | exact HK.out)) hk (.inl rfl))
        have n4_ := Aside0.mk (hb)
        have n5_ := Aside0.mk (hi)
        clear HO_318001
        clear BK310
        clear BK317
        clear HK
        clear HB
        clear HI0
        have HO_318001 := n0_
        have BK310 := n1_
        have BK317 := n2_
        have HK := n3_
        have HB := n4_
        have HI0 := n5_
        clear n0_ n1_ n2_ n3_ n4_ n5_
        (try clear hb)
        (try clear hb2)
        (try clear hk)
        (try clear hi)
        refine hK.out _ _ ⟨(blk_cell BK317.out 0).trans rfl, (blk_cell BK317.out 1).trans rfl⟩ (fun hHeld => ?_)
        clear hK K
        refine norm_ (a' := ?_) ?_ ?_
        rotate_left
        ·show Act.put _ (some 52) _ = _
         simp only [Act.put, List.setIfInBounds_toArray, List.set_cons_zero, List.set_cons_succ, i64_w, i32_w]
         rfl
        refine pure_s (i := 5) (N := some 53) (bs 7 6) (by kernel_rfl) (h := ?_)
        refine pure_s (i := 6) (N := some 54) (bs 7 7) (by kernel_rfl) (h := ?_)
        refine done_ (by kernel_rfl) ?_
        have hnb88 := NB317_310.out
        have hnc88 := NB310_317.out
        have hnb89 := NB317_0.out
        have hnc89 := NB0_317.out
        have hcz90_0 : w87.cell? ⟨gb317, 0, none⟩ = some (.int .i64 t311) := (blk_cell BK317.out 0).trans rfl
        have hcz90_1 : w87.cell? ⟨gb317, 1, none⟩ = some (.slice Ao86 x318001_1.length co86) := (blk_cell BK317.out 1).trans rfl
        have hfz90_0 := blk_frozen BK317.out 0
        have hfz90_1 := blk_frozen BK317.out 1
        try go_wp2_with (first | ((with_reducible refine gate_builtin (b := .append) (xs := #[.tmp 56, .tmp 57]) rfl ?_); at_builtin; refine Kd.R_append (Kd.int .i64) w.heap.size rfl (.tmp 56) (.tmp 57) 22 3 (.int .i64 0) 8 rfl Try.underlying22 info3 rfl (by decide) (by omega) (.slice Ao86 x318001_1.length co86) x318001_1 (-1) [.int .i64 (-1)] (fun _ => True) (fun _ => False) rfl rfl ?aP (fun _ hk => by first | exact hk.elim | grind) ?aF ?aO (Below.refl _ _) ?aS ?aL ?_; (case aP => exact rfl); (case aF => exact (fun _ _ => trivial)); (case aO => exact (kr_ HO_318001)); (case aS => exact (keep_size (w := w) (g := g) (row := none) (by repeat (first | (with_reducible first | exact HK.out | apply KeepBut.set_ | apply keep_drewN | apply keep_drew | apply keep_alloc | refine keep_far ?_ GW310.out _ | refine keep_far ?_ GW317.out _) | exact HK.out)))); (case aL => have := LMc84.out; omega); intro v355 w91 ho hb hg hat; rw [← Ny354.out] at ho; have n0_ := Aside0.mk (blk_grown (g := gb310) (o := .cells #[.int .i64 0, .slice none 0 0] 24 (0, 0)) (bk_ BK310) hg (Kd.R_ne HO_318001.out BK310.out (by decide))); have n1_ := Aside0.mk (blk_grown (g := gb317) (o := .cells #[.int .i64 t311, .slice Ao86 x318001_1.length co86] 24 (0, 0)) (bk_ BK317) hg (Kd.R_ne HO_318001.out BK317.out (by decide))); have n2_ := Aside0.mk (IsS85.grown (by repeat (first | (with_reducible first | exact HI0.out | apply IsS85.alloc | apply IsS85.drewN | apply IsS85.drew | apply IsS85.set_1 | apply IsS85.set_2 | refine IsS85.far ?_ NB0_310.out _ | refine IsS85.far ?_ NB0_317.out _) | exact HI0.out)) hg (IsS85.own_ne HI0.out HO_318001.out (by decide))); have n3_ := Aside0.mk (below_weaken (by repeat (first | (with_reducible first | exact HB.out | apply below_alloc | apply pw_below_drewN | apply below_drew1 | refine below_set ?_ (IsS85.ge HI0.out) | refine below_set ?_ GE310.out | refine below_set ?_ GE317.out) | exact HB.out)) HL.out hb); have n4_ := Aside0.mk (KeepBut.trans (by repeat (first | (with_reducible first | exact HK.out | apply KeepBut.set_ | apply keep_drewN | apply keep_drew | apply keep_alloc | refine keep_far ?_ GW310.out _ | refine keep_far ?_ GW317.out _) | exact HK.out)) (KeepBut.of_grown hg g) (Kd.R_base2 HO_318001.out)); have n5_ := Aside0.mk (ho); clear BK310; clear BK317; clear HI0; clear HB; clear HK; clear HO_318001; have BK310 := n0_; have BK317 := n1_; have HI0 := n2_; have HB := n3_; have HK := n4_; have HO356 := n5_; clear n0_ n1_ n2_ n3_ n4_ n5_; clear ho hb hg hat; obtain ⟨Ao92, co92, eo92⟩ := Kd.R_slice HO356.out; subst eo92; have hcz93_0 : w91.cell? ⟨gb317, 0, none⟩ = some (.int .i64 t311) := (blk_cell BK317.out 0).trans rfl; have hcz93_1 : w91.cell? ⟨gb317, 1, none⟩ = some (.slice Ao86 x318001_1.length co86) := (blk_cell BK317.out 1).trans rfl; have hfz93_0 := blk_frozen BK317.out 0; have hfz93_1 := blk_frozen BK317.out 1))
        go_roundg k1
        case measure => have := HK1.out; omega
        case rel => exact ⟨(t352), (t353), (y354), (.slice Ao92 y354.length co92), H', ⟨by have := HK1.out; omega⟩, ⟨by (with_reducible repeat (first | apply Kd.R_alloc | apply Kd.R_drewN | apply Kd.R_drew)); exact Kd.R_mono (Kd.R_far (p := ⟨gb317, 1, none⟩) (Kd.R_types HO356.out BK317.out (by decide)) (fun _ hk => by first | exact hk.2 | grind) (.slice Ao92 y354.length co92)) (fun _ hk => by first | exact trivial | grind)⟩, ⟨by (with_reducible repeat (first | refine blk_drewN ?_ _ | refine blk_drew ?_ | refine blk_alloc ?_ _)); refine blk_far ?_ NB310_317.out _; exact bk_ BK310⟩, ⟨by (with_reducible repeat (first | refine blk_drewN ?_ _ | refine blk_drew ?_ | refine blk_alloc ?_ _)); refine blk_put (cs := #[.int .i64 t311, .slice Ao86 x318001_1.length co86]) ?_ 1 _ rfl; exact bk_ BK317⟩, ⟨by repeat (first | (with_reducible first | exact HI0.out | apply IsS85.alloc | apply IsS85.drewN | apply IsS85.drew | apply IsS85.set_1 | apply IsS85.set_2 | refine IsS85.far ?_ NB0_310.out _ | refine IsS85.far ?_ NB0_317.out _) | exact HI0.out)⟩, ⟨by repeat (first | (with_reducible first | exact HK.out | apply KeepBut.set_ | apply keep_drewN | apply keep_drew | apply keep_alloc | refine keep_far ?_ GW310.out _ | refine keep_far ?_ GW317.out _) | exact HK.out)⟩, ⟨by repeat (first | (with_reducible first | exact HB.out | apply below_alloc | apply pw_below_drewN | apply below_drew1 | refine below_set ?_ (IsS85.ge HI0.out) | refine below_set ?_ GE310.out | refine below_set ?_ GE317.out) | exact HB.out)⟩⟩
       ·rw [if_neg c84] at H
        exact absurd H (by simp)
      ·rw [if_neg c83] at H
       have c83b0 : decide ((x318001_1.length : Int) < (wrap64 (128 + t351))) = false := decide_eq_false c83
       clear c83
       simp only [Option.some.injEq, Prod.mk.injEq] at H
       obtain ⟨rfl, rfl, rfl, rfl⟩ := H
       try go_wp2
       have n0_ := Aside0.mk (Kd.R_drew HO_318001.out)
       have n1_ := Aside0.mk (blk_drew BK310.out)
       have n2_ := Aside0.mk (blk_drew BK317.out)
       have n3_ := Aside0.mk (IsS85.drew HI0.out)
       have n4_ := Aside0.mk (keep_drew HK.out)
       have n5_ := Aside0.mk (below_drew1 HB.out)
       clear HO_318001
       clear BK310
       clear BK317
       clear HI0
       clear HK
       clear HB
       have HO_318001 := n0_
       have BK310 := n1_
       have BK317 := n2_
       have HI0 := n3_
       have HK := n4_
       have HB := n5_
       clear n0_ n1_ n2_ n3_ n4_ n5_
       obtain ⟨Ao95, co95, eo95⟩ := Kd.R_slice HO_318001.out
       (first | subst eo95 | (injection eo95 with f1_ f2_ f3_; have f4_ := f1_.symm; have f5_ := f3_.symm; clear f1_ f2_ f3_; subst f4_; subst f5_))
       refine start_ (n := 7) (S := fun w' => w'.cell? ⟨gb317, 0, none⟩ = some (.int .i64 t311) ∧ w'.cell? ⟨gb317, 1, none⟩ = some (.slice Ao95 x318001_1.length co95)) (ds := []) (bs 7 0) (by kernel_rfl) rfl rfl ⟨(blk_cell BK317.out 0).trans rfl, (blk_cell BK317.out 1).trans rfl⟩ (fun hHeld => ?_)
       generalize wr.drew = w94 at HO_318001 BK310 BK317 HI0 HK HB hHeld ⊢
       refine pure_s (i := 0) (N := some 48) (bs 7 1) (by kernel_rfl) (h := ?_)
       refine pure_s (i := 3) (N := some 51) #[oT,oF,oF,oT,oF,oF,oF] (by kernel_rfl) (h := ?_)
       refine take_ (i := 1) (N := some 49) (v := ?_) (a' := ?_) #[oT,oT,oF,oT,oF,oF,oF] rfl rfl (by kernel_rfl) (fun _ _ _ h => h) (Or.inl ⟨by rfl, ?_⟩) hHeld ?_ ?_
       rotate_left
       ·rintro w' ⟨s0, s1⟩
        go_simp
        with_reducible rfl
       rotate_left
       ·simp only [Act.put, List.setIfInBounds_toArray, List.set_cons_zero, List.set_cons_succ, i64_w, i32_w]
        rfl
       refine pure_s (i := 2) (N := some 50) (bs 7 4) (by kernel_rfl) (h := ?_)
       refine one_ (i := 4) (N := some 52) (bs 7 5) rfl rfl (by kernel_rfl) (by decide) (fun K hK => ?_)
       refine goes_ Try.func77 (by kernel_rfl) rfl #[.pointer (some ⟨g, 0, none⟩), .int .i64 2] (by rfl) rfl rfl mt_ ?_
       with_reducible refine (spec_l01Cur_pick.calls g s0_0 x1001_1 x1002_1 2 t351 t352 t353 w0 _ ?side1 ?side2 A82.out).mono ?_
       (case side1 => repeat (first | (with_reducible first | exact HI0.out | apply IsS85.alloc | apply IsS85.drewN | apply IsS85.drew | apply IsS85.set_1 | apply IsS85.set_2 | refine IsS85.far ?_ NB0_310.out _ | refine IsS85.far ?_ NB0_317.out _) | exact HI0.out))
       (case side2 => repeat (first | (with_reducible first | exact HB.out | apply below_alloc | apply pw_below_drewN | apply below_drew1 | refine below_set ?_ (IsS85.ge HI0.out) | refine below_set ?_ GE310.out | refine below_set ?_ GE317.out) | exact HB.out))
       rintro e w96 ⟨rfl, hi, hb, hk⟩
       refine ⟨_, rfl, ?_⟩
       have n0_ := Aside0.mk (Kd.R_mono (Kd.R_keep (IsS85.apart (show IsS85 w0 _ g s0_0 x1001_1 x1002_1 from by repeat (first | (with_reducible first | exact HI0.out | apply IsS85.alloc | apply IsS85.drewN | apply IsS85.drew | apply IsS85.set_1 | apply IsS85.set_2 | refine IsS85.far ?_ NB0_310.out _ | refine IsS85.far ?_ NB0_317.out _) | exact HI0.out)) (kr_ HO_318001) (by decide)) hk (fun _ h => h.2)) (fun _ h => h.1))
       have n1_ := Aside0.mk (KeepBut.blk hk (g' := gb310) (o := .cells #[.int .i64 0, .slice none 0 0] 24 (0, 0)) (bk_ BK310) NB310_0.out (by simp))
       have n2_ := Aside0.mk (KeepBut.blk hk (g' := gb317) (o := .cells #[.int .i64 t311, .slice Ao95 x318001_1.length co95] 24 (0, 0)) (bk_ BK317) NB317_0.out (by simp))
       have n3_ := Aside0.mk (KeepBut.trans (by repeat (first | (with_reducible first | exact HK.out | apply KeepBut.set_ | apply keep_drewN | apply keep_drew | apply keep_alloc | refine keep_far ?_ GW310.out _ | refine keep_far ?_ GW317.out _) | exact HK.out)) hk (.inl rfl))
       have n4_ := Aside0.mk (hb)
       have n5_ := Aside0.mk (hi)
       clear HO_318001
       clear BK310
       clear BK317
       clear HK
       clear HB
       clear HI0
       have HO_318001 := n0_
       have BK310 := n1_
       have BK317 := n2_
       have HK := n3_
       have HB := n4_
       have HI0 := n5_
       clear n0_ n1_ n2_ n3_ n4_ n5_
       (try clear hb)
       (try clear hb2)
       (try clear hk)
       (try clear hi)
       refine hK.out _ _ ⟨(blk_cell BK317.out 0).trans rfl, (blk_cell BK317.out 1).trans rfl⟩ (fun hHeld => ?_)
       clear hK K
       refine norm_ (a' := ?_) ?_ ?_
       rotate_left
       ·show Act.put _ (some 52) _ = _
        simp only [Act.put, List.setIfInBounds_toArray, List.set_cons_zero, List.set_cons_succ, i64_w, i32_w]
        rfl
       refine pure_s (i := 5) (N := some 53) (bs 7 6) (by kernel_rfl) (h := ?_)
       refine pure_s (i := 6) (N := some 54) (bs 7 7) (by kernel_rfl) (h := ?_)
       refine done_ (by kernel_rfl) ?_
       have hnb97 := NB317_310.out
       have hnc97 := NB310_317.out
       have hnb98 := NB317_0.out
       have hnc98 := NB0_317.out
       have hcz99_0 : w96.cell? ⟨gb317, 0, none⟩ = some (.int .i64 t311) := (blk_cell BK317.out 0).trans rfl
       have hcz99_1 : w96.cell? ⟨gb317, 1, none⟩ = some (.slice Ao95 x318001_1.length co95) := (blk_cell BK317.out 1).trans rfl
       have hfz99_0 := blk_frozen BK317.out 0
       have hfz99_1 := blk_frozen BK317.out 1
       have hnb100 := NB310_0.out
       have hnc100 := NB0_310.out
       have hcz101_0 : w96.cell? ⟨gb310, 0, none⟩ = some (.int .i64 0) := (blk_cell BK310.out 0).trans rfl
       have hcz101_1 : w96.cell? ⟨gb310, 1, none⟩ = some (.slice none 0 0) := (blk_cell BK310.out 1).trans rfl
       have hfz101_0 := blk_frozen BK310.out 0
       have hfz101_1 := blk_frozen BK310.out 1
       try go_wp2
       refine bodyPost_ret (results_cell_row rfl _ _ gb310 24 #[.int .i64 t311, .slice Ao95 x318001_1.length co95] (0, 0) _ rfl (by (with_reducible repeat (first | refine blk_drewN ?_ _ | refine blk_drew ?_ | refine blk_alloc ?_ _)); refine blk_put (cs := #[.int .i64 t311, .slice none 0 0]) ?_ 1 _ rfl; (with_reducible repeat (first | refine blk_drewN ?_ _ | refine blk_drew ?_ | refine blk_alloc ?_ _)); refine blk_put (cs := #[.int .i64 0, .slice none 0 0]) ?_ 0 _ rfl; exact bk_ BK310) Try.underlying24 rfl (by kernel_rfl)) rfl ?_
       exact ⟨_, by first | rfl | (simp [errW_none, errW_some] <;> rfl) | (simp [*, errW_none, errW_some] <;> rfl), by (with_reducible repeat (first | apply Kd.R_alloc | apply Kd.R_drewN | apply Kd.R_drew)); exact Kd.R_mono (Kd.R_far (p := ⟨gb310, 1, none⟩) (Kd.R_far (p := ⟨gb310, 0, none⟩) (Kd.R_types HO_318001.out BK310.out (by decide)) (fun _ hk => by first | exact hk.2 | grind) (.int .i64 t311)) (fun _ hk => by first | exact hk.2 | grind) (.slice Ao95 x318001_1.length co95)) (fun _ hk => by first | exact trivial | grind), by repeat (first | (with_reducible first | exact HI0.out | apply IsS85.alloc | apply IsS85.drewN | apply IsS85.drew | apply IsS85.set_1 | apply IsS85.set_2 | refine IsS85.far ?_ NB0_310.out _ | refine IsS85.far ?_ NB0_317.out _) | exact HI0.out), by repeat (first | (with_reducible first | exact HB.out | apply below_alloc | apply pw_below_drewN | apply below_drew1 | refine below_set ?_ (IsS85.ge HI0.out) | refine below_set ?_ GE310.out | refine below_set ?_ GE317.out) | exact HB.out), by repeat (first | (with_reducible first | exact HK.out | apply KeepBut.set_ | apply keep_drewN | apply keep_drew | apply keep_alloc | refine keep_far ?_ GW310.out _ | refine keep_far ?_ GW317.out _) | exact HK.out)⟩
   ·rw [if_neg c73] at H
    have c73b0 : (t318 == 2) = false := beq_eq_false_iff_ne.mpr c73
    have c73b1 : (t318 != 2) = true := bne_iff_ne.mpr c73
    simp only [Option.some.injEq, Prod.mk.injEq] at H
    obtain ⟨rfl, rfl, rfl, rfl⟩ := H
    go_enter Try.func76, Try.ntmps76
    go_wp2_with (first | ((with_reducible refine gate_dst (N := 2) rfl ?_); refine box_event ?hg (N := 2) ?hd (cs := #[.int .i64 0, .slice none 0 0]) (t := 24) ?hr ?_; (case hd => rfl); (case hg => rfl); (case hr => first | (go_simp; done) | (go_simp; rfl)); intro gb310 hg w102 hbox hb; have n0_ := Aside0.mk (IsS85.below (by repeat (first | (with_reducible first | exact HI0.out | apply IsS85.alloc | apply IsS85.drewN | apply IsS85.drew | apply IsS85.set_1 | apply IsS85.set_2) | exact HI0.out)) hb); have n1_ := Aside0.mk (KeepBut.trans (by repeat (first | (with_reducible first | exact HK.out | apply KeepBut.set_ | apply keep_drewN | apply keep_drew | apply keep_alloc) | exact HK.out)) (KeepBut.of_below hb g none) (.inl rfl)); have n2_ := Aside0.mk (below_step (by repeat (first | (with_reducible first | exact HB.out | apply below_alloc | apply pw_below_drewN | apply below_drew1 | refine below_set ?_ (IsS85.ge HI0.out)) | exact HB.out)) hb); have n3_ := Aside0.mk (hbox); have n4_ := Aside0.mk ((by rw [hg]; exact (keep_size (w := w) (g := g) (row := none) (by repeat (first | (with_reducible first | exact HK.out | apply KeepBut.set_ | apply keep_drewN | apply keep_drew | apply keep_alloc) | exact HK.out))) : w.heap.size ≤ gb310)); have n5_ := Aside0.mk ((Nat.le_trans HW0.out (by rw [hg]; exact (keep_size (w := w) (g := g) (row := none) (by repeat (first | (with_reducible first | exact HK.out | apply KeepBut.set_ | apply keep_drewN | apply keep_drew | apply keep_alloc) | exact HK.out))) : w.heap.size ≤ gb310) : w0.heap.size ≤ gb310)); have n6_ := Aside0.mk ((by rw [hg]; exact Nat.ne_of_lt (IsS85.lt (show IsS85 w0 _ g s0_0 s0_1 s0_2 from by repeat (first | (with_reducible first | exact HI0.out | apply IsS85.alloc | apply IsS85.drewN | apply IsS85.drew | apply IsS85.set_1 | apply IsS85.set_2) | exact HI0.out))) : g ≠ gb310)); have n7_ := Aside0.mk ((by rw [hg]; exact Nat.ne_of_gt (IsS85.lt (show IsS85 w0 _ g s0_0 s0_1 s0_2 from by repeat (first | (with_reducible first | exact HI0.out | apply IsS85.alloc | apply IsS85.drewN | apply IsS85.drew | apply IsS85.set_1 | apply IsS85.set_2) | exact HI0.out))) : gb310 ≠ g)); clear HI0; clear HK; clear HB; have HI0 := n0_; have HK := n1_; have HB := n2_; have BK310 := n3_; have GW310 := n4_; have GE310 := n5_; have NB0_310 := n6_; have NB310_0 := n7_; clear n0_ n1_ n2_ n3_ n4_ n5_ n6_ n7_; clear hb hbox hg) | ((with_reducible refine gate_callee (f := 82) rfl ?_); refine goesL_ (some 5) rfl rfl Try.func82 (by kernel_rfl) rfl #[.pointer (some ⟨g, 0, none⟩)] rfl mt_ ?_; (with_reducible refine (spec_l01Cur_slab.calls k g s0_0 s0_1 s0_2 t311 t312 t315 t316 w0 _ ?side1 ?side2 A2.out).mono ?_); (case side1 => repeat (first | (with_reducible first | exact HI0.out | apply IsS85.alloc | apply IsS85.drewN | apply IsS85.drew | apply IsS85.set_1 | apply IsS85.set_2 | refine IsS85.far ?_ NB0_310.out _) | exact HI0.out)); (case side2 => repeat (first | (with_reducible first | exact HB.out | apply below_alloc | apply pw_below_drewN | apply below_drew1 | refine below_set ?_ (IsS85.ge HI0.out) | refine below_set ?_ GE310.out) | exact HB.out)); rintro e w103 ⟨v313, rfl, ho0, hi, hb, hk⟩; refine ⟨_, rfl, ?_⟩; have n0_ := Aside0.mk (KeepBut.blk hk (g' := gb310) (o := .cells #[.int .i64 0, .slice none 0 0] 24 (0, 0)) (bk_ BK310) NB310_0.out (by simp)); have n1_ := Aside0.mk (Kd.R_lower ho0 (keep_size (w := w) (g := g) (row := none) (by repeat (first | (with_reducible first | exact HK.out | apply KeepBut.set_ | apply keep_drewN | apply keep_drew | apply keep_alloc | refine keep_far ?_ GW310.out _) | exact HK.out)))); have n2_ := Aside0.mk (KeepBut.trans (by repeat (first | (with_reducible first | exact HK.out | apply KeepBut.set_ | apply keep_drewN | apply keep_drew | apply keep_alloc | refine keep_far ?_ GW310.out _) | exact HK.out)) hk (.inl rfl)); have n3_ := Aside0.mk (hb); have n4_ := Aside0.mk (hi); clear BK310; clear HK; clear HB; clear HI0; have BK310 := n0_; have HO314 := n1_; have HK := n2_; have HB := n3_; have HI0 := n4_; clear n0_ n1_ n2_ n3_ n4_; (try clear hb); (try clear hb2); (try clear hk); (try clear hi); (try clear ho0)) | ((with_reducible refine gate_dst (N := 3) rfl ?_); refine box_event ?hg (N := 3) ?hd (cs := #[.int .i64 0, .slice none 0 0]) (t := 24) ?hr ?_; (case hd => rfl); (case hg => rfl); (case hr => first | (go_simp; done) | (go_simp; rfl)); intro gb317 hg w104 hbox hb; have n0_ := Aside0.mk (Kd.R_below (kr_ HO314) hb); have n1_ := Aside0.mk (IsS85.below (by repeat (first | (with_reducible first | exact HI0.out | apply IsS85.alloc | apply IsS85.drewN | apply IsS85.drew | apply IsS85.set_1 | apply IsS85.set_2 | refine IsS85.far ?_ NB0_310.out _) | exact HI0.out)) hb); have n2_ := Aside0.mk (blk_below (g := gb310) (o := .cells #[.int .i64 0, .slice none 0 0] 24 (0, 0)) (bk_ BK310) hb); have n3_ := Aside0.mk (KeepBut.trans (by repeat (first | (with_reducible first | exact HK.out | apply KeepBut.set_ | apply keep_drewN | apply keep_drew | apply keep_alloc | refine keep_far ?_ GW310.out _) | exact HK.out)) (KeepBut.of_below hb g none) (.inl rfl)); have n4_ := Aside0.mk (below_step (by repeat (first | (with_reducible first | exact HB.out | apply below_alloc | apply pw_below_drewN | apply below_drew1 | refine below_set ?_ (IsS85.ge HI0.out) | refine below_set ?_ GE310.out) | exact HB.out)) hb); have n5_ := Aside0.mk (hbox); have n6_ := Aside0.mk ((by rw [hg]; exact (keep_size (w := w) (g := g) (row := none) (by repeat (first | (with_reducible first | exact HK.out | apply KeepBut.set_ | apply keep_drewN | apply keep_drew | apply keep_alloc | refine keep_far ?_ GW310.out _) | exact HK.out))) : w.heap.size ≤ gb317)); have n7_ := Aside0.mk ((Nat.le_trans HW0.out (by rw [hg]; exact (keep_size (w := w) (g := g) (row := none) (by repeat (first | (with_reducible first | exact HK.out | apply KeepBut.set_ | apply keep_drewN | apply keep_drew | apply keep_alloc | refine keep_far ?_ GW310.out _) | exact HK.out))) : w.heap.size ≤ gb317) : w0.heap.size ≤ gb317)); have n8_ := Aside0.mk ((by rw [hg]; exact Nat.ne_of_lt (blk_lt (g := gb310) (o := .cells #[.int .i64 0, .slice none 0 0] 24 (0, 0)) (bk_ BK310)) : gb310 ≠ gb317)); have n9_ := Aside0.mk ((by rw [hg]; exact Nat.ne_of_gt (blk_lt (g := gb310) (o := .cells #[.int .i64 0, .slice none 0 0] 24 (0, 0)) (bk_ BK310)) : gb317 ≠ gb310)); have n10_ := Aside0.mk ((by rw [hg]; exact Nat.ne_of_lt (IsS85.lt (show IsS85 w0 _ g s0_0 t315 t316 from by repeat (first | (with_reducible first | exact HI0.out | apply IsS85.alloc | apply IsS85.drewN | apply IsS85.drew | apply IsS85.set_1 | apply IsS85.set_2 | refine IsS85.far ?_ NB0_310.out _) | exact HI0.out))) : g ≠ gb317)); have n11_ := Aside0.mk ((by rw [hg]; exact Nat.ne_of_gt (IsS85.lt (show IsS85 w0 _ g s0_0 t315 t316 from by repeat (first | (with_reducible first | exact HI0.out | apply IsS85.alloc | apply IsS85.drewN | apply IsS85.drew | apply IsS85.set_1 | apply IsS85.set_2 | refine IsS85.far ?_ NB0_310.out _) | exact HI0.out))) : gb317 ≠ g)); clear HO314; clear HI0; clear BK310; clear HK; clear HB; have HO314 := n0_; have HI0 := n1_; have BK310 := n2_; have HK := n3_; have HB := n4_; have BK317 := n5_; have GW317 := n6_; have GE317 := n7_; have NB310_317 := n8_; have NB317_310 := n9_; have NB0_317 := n10_; have NB317_0 := n11_; clear n0_ n1_ n2_ n3_ n4_ n5_ n6_ n7_ n8_ n9_ n10_ n11_; clear hb hbox hg; have hnb105 := NB317_310.out; have hnc105 := NB310_317.out; have hnb106 := NB317_0.out; have hnc106 := NB0_317.out; have hcz107_0 : w104.cell? ⟨gb317, 0, none⟩ = some (.int .i64 0) := (blk_cell BK317.out 0).trans rfl; have hcz107_1 : w104.cell? ⟨gb317, 1, none⟩ = some (.slice none 0 0) := (blk_cell BK317.out 1).trans rfl; have hfz107_0 := blk_frozen BK317.out 0; have hfz107_1 := blk_frozen BK317.out 1; obtain ⟨Ao108, co108, eo108⟩ := Kd.R_slice HO314.out; subst eo108) | ((with_reducible refine gate_callee (f := 77) rfl ?_); refine goesL_ (some 7) rfl rfl Try.func77 (by kernel_rfl) rfl #[.pointer (some ⟨g, 0, none⟩), .int .i64 12] rfl mt_ ?_; (with_reducible refine (spec_l01Cur_pick.calls g s0_0 t315 t316 12 t318 t319 t320 w0 _ ?side1 ?side2 A3.out).mono ?_); (case side1 => repeat (first | (with_reducible first | exact HI0.out | apply IsS85.alloc | apply IsS85.drewN | apply IsS85.drew | apply IsS85.set_1 | apply IsS85.set_2 | refine IsS85.far ?_ NB0_310.out _ | refine IsS85.far ?_ NB0_317.out _) | exact HI0.out)); (case side2 => repeat (first | (with_reducible first | exact HB.out | apply below_alloc | apply pw_below_drewN | apply below_drew1 | refine below_set ?_ (IsS85.ge HI0.out) | refine below_set ?_ GE310.out | refine below_set ?_ GE317.out) | exact HB.out)); rintro e w109 ⟨rfl, hi, hb, hk⟩; refine ⟨_, rfl, ?_⟩; have n0_ := Aside0.mk (KeepBut.blk hk (g' := gb310) (o := .cells #[.int .i64 0, .slice none 0 0] 24 (0, 0)) (by (with_reducible repeat (first | refine blk_drewN ?_ _ | refine blk_drew ?_ | refine blk_alloc ?_ _)); refine blk_far ?_ NB310_317.out _; (with_reducible repeat (first | refine blk_drewN ?_ _ | refine blk_drew ?_ | refine blk_alloc ?_ _)); refine blk_far ?_ NB310_317.out _; exact bk_ BK310) NB310_0.out (by simp)); have n1_ := Aside0.mk (Kd.R_mono (Kd.R_keep (IsS85.apart (show IsS85 w0 _ g s0_0 t315 t316 from by repeat (first | (with_reducible first | exact HI0.out | apply IsS85.alloc | apply IsS85.drewN | apply IsS85.drew | apply IsS85.set_1 | apply IsS85.set_2 | refine IsS85.far ?_ NB0_310.out _ | refine IsS85.far ?_ NB0_317.out _) | exact HI0.out)) (by (with_reducible repeat (first | apply Kd.R_alloc | apply Kd.R_drewN | apply Kd.R_drew)); exact (Kd.R_mono (Kd.R_far (p := ⟨gb317, 1, none⟩) (Kd.R_far (p := ⟨gb317, 0, none⟩) (Kd.R_types HO314.out BK317.out (by decide)) (fun _ hk => by first | exact hk.2 | grind) (.int .i64 t311)) (fun _ hk => by first | exact hk.2 | grind) (.slice Ao108 t312.length co108)) (fun _ h_ => h_.1))) (by decide)) hk (fun _ h => h.2)) (fun _ h => h.1)); have n2_ := Aside0.mk (KeepBut.blk hk (g' := gb317) (o := .cells #[.int .i64 t311, .slice Ao108 t312.length co108] 24 (0, 0)) (by (with_reducible repeat (first | refine blk_drewN ?_ _ | refine blk_drew ?_ | refine blk_alloc ?_ _)); refine blk_put (cs := #[.int .i64 t311, .slice none 0 0]) ?_ 1 _ rfl; (with_reducible repeat (first | refine blk_drewN ?_ _ | refine blk_drew ?_ | refine blk_alloc ?_ _)); refine blk_put (cs := #[.int .i64 0, .slice none 0 0]) ?_ 0 _ rfl; exact bk_ BK317) NB317_0.out (by simp)); have n3_ := Aside0.mk (KeepBut.trans (by repeat (first | (with_reducible first | exact HK.out | apply KeepBut.set_ | apply keep_drewN | apply keep_drew | apply keep_alloc | refine keep_far ?_ GW310.out _ | refine keep_far ?_ GW317.out _) | exact HK.out)) hk (.inl rfl)); have n4_ := Aside0.mk (hb); have n5_ := Aside0.mk (hi); clear BK310; clear HO314; clear BK317; clear HK; clear HB; clear HI0; have BK310 := n0_; have HO314 := n1_; have BK317 := n2_; have HK := n3_; have HB := n4_; have HI0 := n5_; clear n0_ n1_ n2_ n3_ n4_ n5_; (try clear hb); (try clear hb2); (try clear hk); (try clear hi); have hcz110_0 : w109.cell? ⟨gb317, 0, none⟩ = some (.int .i64 t311) := (blk_cell BK317.out 0).trans rfl; have hcz110_1 : w109.cell? ⟨gb317, 1, none⟩ = some (.slice Ao108 t312.length co108) := (blk_cell BK317.out 1).trans rfl; have hfz110_0 := blk_frozen BK317.out 0; have hfz110_1 := blk_frozen BK317.out 1; have hnb111 := NB310_0.out; have hnc111 := NB0_310.out; have hcz112_0 : w109.cell? ⟨gb310, 0, none⟩ = some (.int .i64 0) := (blk_cell BK310.out 0).trans rfl; have hcz112_1 : w109.cell? ⟨gb310, 1, none⟩ = some (.slice none 0 0) := (blk_cell BK310.out 1).trans rfl; have hfz112_0 := blk_frozen BK310.out 0; have hfz112_1 := blk_frozen BK310.out 1))
    refine bodyPost_ret (results_cell_row rfl _ _ gb310 24 #[.int .i64 t311, .slice Ao108 t312.length co108] (0, 0) _ rfl (by (with_reducible repeat (first | refine blk_drewN ?_ _ | refine blk_drew ?_ | refine blk_alloc ?_ _)); refine blk_put (cs := #[.int .i64 t311, .slice none 0 0]) ?_ 1 _ rfl; (with_reducible repeat (first | refine blk_drewN ?_ _ | refine blk_drew ?_ | refine blk_alloc ?_ _)); refine blk_put (cs := #[.int .i64 0, .slice none 0 0]) ?_ 0 _ rfl; exact bk_ BK310) Try.underlying24 rfl (by kernel_rfl)) rfl ?_
    exact ⟨_, by first | rfl | (simp [errW_none, errW_some] <;> rfl) | (simp [*, errW_none, errW_some] <;> rfl), by (with_reducible repeat (first | apply Kd.R_alloc | apply Kd.R_drewN | apply Kd.R_drew)); exact Kd.R_mono (Kd.R_far (p := ⟨gb310, 1, none⟩) (Kd.R_far (p := ⟨gb310, 0, none⟩) (Kd.R_types HO314.out BK310.out (by decide)) (fun _ hk => by first | exact hk.2 | grind) (.int .i64 t311)) (fun _ hk => by first | exact hk.2 | grind) (.slice Ao108 t312.length co108)) (fun _ hk => by first | exact trivial | grind), by repeat (first | (with_reducible first | exact HI0.out | apply IsS85.alloc | apply IsS85.drewN | apply IsS85.drew | apply IsS85.set_1 | apply IsS85.set_2 | refine IsS85.far ?_ NB0_310.out _ | refine IsS85.far ?_ NB0_317.out _) | exact HI0.out), by repeat (first | (with_reducible first | exact HB.out | apply below_alloc | apply pw_below_drewN | apply below_drew1 | refine below_set ?_ (IsS85.ge HI0.out) | refine below_set ?_ GE310.out | refine below_set ?_ GE317.out) | exact HB.out), by repeat (first | (with_reducible first | exact HK.out | apply KeepBut.set_ | apply keep_drewN | apply keep_drew | apply keep_alloc | refine keep_far ?_ GW310.out _ | refine keep_far ?_ GW317.out _) | exact HK.out)⟩

end Go.Proofs.Ytaglpjlapfocfaa.PFnTakeGive
