-- printed by a program of this session (wip/printx) out of the translation; Lean checks it
import Derived.Test.YtpoiljfjddehcaaPFnEtherBackx0
import Derived.Test.YtpoiljfjddehcaaPFnEtherBackx1
namespace Go.Proofs.Ytpoiljfjddehcaa.PFnEtherBack
open Go.RowKit Go.Proofs.YtpoiljfjddehcaaW.PrintWords Go.Proofs.YtpoiljfjddehcaaW.PrintLast Go.Proofs.YtpoiljfjddehcaaW.PrintMore
attribute [local go_sem] max2_int min2_int max_two min_two max_three min_three max_four min_four   -- for this text's walks alone
set_option linter.unusedVariables false
set_option linter.unusedSimpArgs false

/-! ### spec_l01Cur_ether: function 112 -/
def spec_l01Cur_ether.f (s0_0 : List Int) (s0_1 : Int) (s0_2 : Int) : Option (Int × Int × Int × Int × List Int × Int × Int) := (spec_l01Cur_wide.f s0_0 s0_1 s0_2 16777216).bind fun bt130 => ((spec_l01Cur_pick.f s0_0 bt130.2.1 bt130.2.2 256).bind fun bt133 => ((spec_l01Cur_wide.f s0_0 bt133.2.1 bt133.2.2 16777216).bind fun bt136 => ((spec_l01Cur_pick.f s0_0 bt136.2.1 bt136.2.2 256).bind fun bt139 => ((spec_l01Cur_wide.f s0_0 bt139.2.1 bt139.2.2 65536).bind fun bt142 => ((some (([(-1), (-1), bt142.1, 0, 65535] : List Int) : List Int)).bind fun y145 => ((spec_l01Cur_pick.f s0_0 bt142.2.1 bt142.2.2 5).bind fun bt148 => (if 0 ≤ bt148.1 then (if bt148.1 < (y145.length : Int) then ((some (([2048, 34525, 2054, 1536, 65535, 2048] : List Int) : List Int)).bind fun y152 => ((spec_l01Cur_pick.f s0_0 bt148.2.1 bt148.2.2 6).bind fun bt155 => (if 0 ≤ bt155.1 then (if bt155.1 < (y152.length : Int) then (some (wrap64 ((wrap64 (bt130.1 * 7919)) + bt133.1), wrap64 ((wrap64 (bt136.1 * 16777215)) + bt139.1), rd y145 bt148.1, rd y152 bt155.1, ([] : List Int), bt155.2.1, bt155.2.2)) else (none)) else (none)))) else (none)) else (none))))))))
def spec_l01Cur_ether.T1 : Bool × List (List Nat × List Nat) := (true, [([], []), ([0], [0]), ([1], [1]), ([], []), ([3, 1], [3]), ([2, 4], [2, 4]), ([], []), ([6, 4], [6]), ([7], [7]), ([], []), ([9, 7], [9]), ([8, 10], [8, 10]), ([], []), ([12, 10], [12]), ([13], [13]), ([], []), ([15, 13], [15]), ([14, 16], [14, 16]), ([17], [17]), ([], []), ([], []), ([20, 16], [20]), ([19, 21], [19, 21]), ([22], [22]), ([5, 11, 18, 23], [5, 11, 18, 23]), ([24, 21, 0, 1, 2, 3, 4, 5, 6, 7, 8, 9, 10, 11, 12, 13, 14, 15, 16, 17, 18, 19, 20, 21, 22, 23, 24], [24])])
def spec_l01Cur_ether.B1 : List Nat := [0, 1, 3, 0, 11, 31, 0, 91, 219, 0, 731, 2011, 0, 5851, 14043, 0, 46811, 128731, 259803, 0, 0, 1160923, 3782363, 7976667, 16777215, 33554431]
theorem spec_l01Cur_ether.tab1 : rtab .any (opsOf Try.f112 1) = spec_l01Cur_ether.T1 := by kernel_rfl
theorem spec_l01Cur_ether.bits1 : waitsOk spec_l01Cur_ether.T1.2 spec_l01Cur_ether.B1 = true := by kernel_rfl
set_option maxHeartbeats 8000000 in
set_option maxRecDepth 100000 in
theorem spec_l01Cur_ether.calls (g : Nat) (s0_0 : List Int) (s0_1 : Int) (s0_2 : Int) (r1 : Int) (r2 : Int) (r3 : Int) (r4 : Int) (r5 : List Int) (r6 : Int) (r7 : Int) (w0 w : World) (hI : IsS122 w0 w g s0_0 s0_1 s0_2) (hB : Below w0.heap.size w0 w) (h : spec_l01Cur_ether.f s0_0 s0_1 s0_2 = some (r1, r2, r3, r4, r5, r6, r7)) :
  Calls Try.prog 112 #[.pointer (some ⟨g, 0, none⟩)] w fun e w' => ∃ v4_ : Value, e = .returned (.agg #[.int .i64 r1, .int .i64 r2, .int .i64 r3, .int .i64 r4, v4_]) ∧ Kd.R (Kd.int .u8) 5 w' w.heap.size (fun _ => True) v4_ r5 ∧ IsS122 w0 w' g s0_0 r6 r7 ∧ Below w0.heap.size w0 w' ∧ KeepBut w w' g none := by
 have hu32 := Try.underlying32
 have HI0 := Aside0.mk hI
 have HK := Aside0.mk (KeepBut.refl w g none)
 have HL := Aside0.mk hB.size
 clear hI
 have HW0 := Aside0.mk hB.size
 have HB := Aside0.mk hB; clear hB
 have H : ((spec_l01Cur_wide.f s0_0 s0_1 s0_2 16777216).bind fun bt130 => ((spec_l01Cur_pick.f s0_0 bt130.2.1 bt130.2.2 256).bind fun bt133 => ((spec_l01Cur_wide.f s0_0 bt133.2.1 bt133.2.2 16777216).bind fun bt136 => ((spec_l01Cur_pick.f s0_0 bt136.2.1 bt136.2.2 256).bind fun bt139 => ((spec_l01Cur_wide.f s0_0 bt139.2.1 bt139.2.2 65536).bind fun bt142 => ((some (([(-1), (-1), bt142.1, 0, 65535] : List Int) : List Int)).bind fun y145 => ((spec_l01Cur_pick.f s0_0 bt142.2.1 bt142.2.2 5).bind fun bt148 => (if 0 ≤ bt148.1 then (if bt148.1 < (y145.length : Int) then ((some (([2048, 34525, 2054, 1536, 65535, 2048] : List Int) : List Int)).bind fun y152 => ((spec_l01Cur_pick.f s0_0 bt148.2.1 bt148.2.2 6).bind fun bt155 => (if 0 ≤ bt155.1 then (if bt155.1 < (y152.length : Int) then (some (wrap64 ((wrap64 (bt130.1 * 7919)) + bt133.1), wrap64 ((wrap64 (bt136.1 * 16777215)) + bt139.1), rd y145 bt148.1, rd y152 bt155.1, ([] : List Int), bt155.2.1, bt155.2.2)) else (none)) else (none)))) else (none)) else (none))))))))) = some (r1, r2, r3, r4, r5, r6, r7) := h
 clear h
 replace H := Option.bind_eq_some_iff.mp H
 obtain ⟨⟨t130, t131, t132⟩, A20, H⟩ := H
 replace H : ((spec_l01Cur_pick.f s0_0 t131 t132 256).bind fun bt133 => ((spec_l01Cur_wide.f s0_0 bt133.2.1 bt133.2.2 16777216).bind fun bt136 => ((spec_l01Cur_pick.f s0_0 bt136.2.1 bt136.2.2 256).bind fun bt139 => ((spec_l01Cur_wide.f s0_0 bt139.2.1 bt139.2.2 65536).bind fun bt142 => ((some (([(-1), (-1), bt142.1, 0, 65535] : List Int) : List Int)).bind fun y145 => ((spec_l01Cur_pick.f s0_0 bt142.2.1 bt142.2.2 5).bind fun bt148 => (if 0 ≤ bt148.1 then (if bt148.1 < (y145.length : Int) then ((some (([2048, 34525, 2054, 1536, 65535, 2048] : List Int) : List Int)).bind fun y152 => ((spec_l01Cur_pick.f s0_0 bt148.2.1 bt148.2.2 6).bind fun bt155 => (if 0 ≤ bt155.1 then (if bt155.1 < (y152.length : Int) then (some (wrap64 ((wrap64 (t130 * 7919)) + bt133.1), wrap64 ((wrap64 (bt136.1 * 16777215)) + bt139.1), rd y145 bt148.1, rd y152 bt155.1, ([] : List Int), bt155.2.1, bt155.2.2)) else (none)) else (none)))) else (none)) else (none)))))))) = some (r1, r2, r3, r4, r5, r6, r7) := H
 have A2 := Aside0.mk A20
 clear A20
 replace H := Option.bind_eq_some_iff.mp H
 obtain ⟨⟨t133, t134, t135⟩, A30, H⟩ := H
 replace H : ((spec_l01Cur_wide.f s0_0 t134 t135 16777216).bind fun bt136 => ((spec_l01Cur_pick.f s0_0 bt136.2.1 bt136.2.2 256).bind fun bt139 => ((spec_l01Cur_wide.f s0_0 bt139.2.1 bt139.2.2 65536).bind fun bt142 => ((some (([(-1), (-1), bt142.1, 0, 65535] : List Int) : List Int)).bind fun y145 => ((spec_l01Cur_pick.f s0_0 bt142.2.1 bt142.2.2 5).bind fun bt148 => (if 0 ≤ bt148.1 then (if bt148.1 < (y145.length : Int) then ((some (([2048, 34525, 2054, 1536, 65535, 2048] : List Int) : List Int)).bind fun y152 => ((spec_l01Cur_pick.f s0_0 bt148.2.1 bt148.2.2 6).bind fun bt155 => (if 0 ≤ bt155.1 then (if bt155.1 < (y152.length : Int) then (some (wrap64 ((wrap64 (t130 * 7919)) + t133), wrap64 ((wrap64 (bt136.1 * 16777215)) + bt139.1), rd y145 bt148.1, rd y152 bt155.1, ([] : List Int), bt155.2.1, bt155.2.2)) else (none)) else (none)))) else (none)) else (none))))))) = some (r1, r2, r3, r4, r5, r6, r7) := H
 have A3 := Aside0.mk A30
 clear A30
 replace H := Option.bind_eq_some_iff.mp H
 obtain ⟨⟨t136, t137, t138⟩, A40, H⟩ := H
 replace H : ((spec_l01Cur_pick.f s0_0 t137 t138 256).bind fun bt139 => ((spec_l01Cur_wide.f s0_0 bt139.2.1 bt139.2.2 65536).bind fun bt142 => ((some (([(-1), (-1), bt142.1, 0, 65535] : List Int) : List Int)).bind fun y145 => ((spec_l01Cur_pick.f s0_0 bt142.2.1 bt142.2.2 5).bind fun bt148 => (if 0 ≤ bt148.1 then (if bt148.1 < (y145.length : Int) then ((some (([2048, 34525, 2054, 1536, 65535, 2048] : List Int) : List Int)).bind fun y152 => ((spec_l01Cur_pick.f s0_0 bt148.2.1 bt148.2.2 6).bind fun bt155 => (if 0 ≤ bt155.1 then (if bt155.1 < (y152.length : Int) then (some (wrap64 ((wrap64 (t130 * 7919)) + t133), wrap64 ((wrap64 (t136 * 16777215)) + bt139.1), rd y145 bt148.1, rd y152 bt155.1, ([] : List Int), bt155.2.1, bt155.2.2)) else (none)) else (none)))) else (none)) else (none)))))) = some (r1, r2, r3, r4, r5, r6, r7) := H
 have A4 := Aside0.mk A40
 clear A40
 replace H := Option.bind_eq_some_iff.mp H
 obtain ⟨⟨t139, t140, t141⟩, A50, H⟩ := H
 replace H : ((spec_l01Cur_wide.f s0_0 t140 t141 65536).bind fun bt142 => ((some (([(-1), (-1), bt142.1, 0, 65535] : List Int) : List Int)).bind fun y145 => ((spec_l01Cur_pick.f s0_0 bt142.2.1 bt142.2.2 5).bind fun bt148 => (if 0 ≤ bt148.1 then (if bt148.1 < (y145.length : Int) then ((some (([2048, 34525, 2054, 1536, 65535, 2048] : List Int) : List Int)).bind fun y152 => ((spec_l01Cur_pick.f s0_0 bt148.2.1 bt148.2.2 6).bind fun bt155 => (if 0 ≤ bt155.1 then (if bt155.1 < (y152.length : Int) then (some (wrap64 ((wrap64 (t130 * 7919)) + t133), wrap64 ((wrap64 (t136 * 16777215)) + t139), rd y145 bt148.1, rd y152 bt155.1, ([] : List Int), bt155.2.1, bt155.2.2)) else (none)) else (none)))) else (none)) else (none))))) = some (r1, r2, r3, r4, r5, r6, r7) := H
 have A5 := Aside0.mk A50
 clear A50
 replace H := Option.bind_eq_some_iff.mp H
 obtain ⟨⟨t142, t143, t144⟩, A60, H⟩ := H
 replace H : ((some (([(-1), (-1), t142, 0, 65535] : List Int) : List Int)).bind fun y145 => ((spec_l01Cur_pick.f s0_0 t143 t144 5).bind fun bt148 => (if 0 ≤ bt148.1 then (if bt148.1 < (y145.length : Int) then ((some (([2048, 34525, 2054, 1536, 65535, 2048] : List Int) : List Int)).bind fun y152 => ((spec_l01Cur_pick.f s0_0 bt148.2.1 bt148.2.2 6).bind fun bt155 => (if 0 ≤ bt155.1 then (if bt155.1 < (y152.length : Int) then (some (wrap64 ((wrap64 (t130 * 7919)) + t133), wrap64 ((wrap64 (t136 * 16777215)) + t139), rd y145 bt148.1, rd y152 bt155.1, ([] : List Int), bt155.2.1, bt155.2.2)) else (none)) else (none)))) else (none)) else (none)))) = some (r1, r2, r3, r4, r5, r6, r7) := H
 have A6 := Aside0.mk A60
 clear A60
 obtain ⟨y145, hy145⟩ : ∃ y_ : List Int, y_ = (([(-1), (-1), t142, 0, 65535] : List Int)) := ⟨_, rfl⟩
 replace H : ((spec_l01Cur_pick.f s0_0 t143 t144 5).bind fun bt148 => (if 0 ≤ bt148.1 then (if bt148.1 < (y145.length : Int) then ((some (([2048, 34525, 2054, 1536, 65535, 2048] : List Int) : List Int)).bind fun y152 => ((spec_l01Cur_pick.f s0_0 bt148.2.1 bt148.2.2 6).bind fun bt155 => (if 0 ≤ bt155.1 then (if bt155.1 < (y152.length : Int) then (some (wrap64 ((wrap64 (t130 * 7919)) + t133), wrap64 ((wrap64 (t136 * 16777215)) + t139), rd y145 bt148.1, rd y152 bt155.1, ([] : List Int), bt155.2.1, bt155.2.2)) else (none)) else (none)))) else (none)) else (none))) = some (r1, r2, r3, r4, r5, r6, r7) := by first | (rw [hy145]; with_reducible exact H) | (have H2_ := (Option.bind_some _ _).symm.trans H; rw [hy145]; with_reducible exact H2_) | (have H2_ := (Option.bind_some _ _).symm.trans H; with_reducible exact H2_) | with_reducible exact H | (rw [hy145]; exact H) | exact H
 have Ny145 := Aside0.mk hy145
 clear hy145
 replace H := Option.bind_eq_some_iff.mp H
 obtain ⟨⟨t148, t149, t150⟩, A70, H⟩ := H
 replace H : (if 0 ≤ t148 then (if t148 < (y145.length : Int) then ((some (([2048, 34525, 2054, 1536, 65535, 2048] : List Int) : List Int)).bind fun y152 => ((spec_l01Cur_pick.f s0_0 t149 t150 6).bind fun bt155 => (if 0 ≤ bt155.1 then (if bt155.1 < (y152.length : Int) then (some (wrap64 ((wrap64 (t130 * 7919)) + t133), wrap64 ((wrap64 (t136 * 16777215)) + t139), rd y145 t148, rd y152 bt155.1, ([] : List Int), bt155.2.1, bt155.2.2)) else (none)) else (none)))) else (none)) else (none)) = some (r1, r2, r3, r4, r5, r6, r7) := H
 have A7 := Aside0.mk A70
 clear A70
 by_cases c8 : 0 ≤ t148
 ·rw [if_pos c8] at H
  have c8b0 : decide (0 ≤ t148) = true := decide_eq_true c8
  clear c8
  by_cases c9 : t148 < (y145.length : Int)
  ·rw [if_pos c9] at H
   have c9b0 : decide (t148 < (y145.length : Int)) = true := decide_eq_true c9
   clear c9
   obtain ⟨y152, hy152⟩ : ∃ y_ : List Int, y_ = (([2048, 34525, 2054, 1536, 65535, 2048] : List Int)) := ⟨_, rfl⟩
   replace H : ((spec_l01Cur_pick.f s0_0 t149 t150 6).bind fun bt155 => (if 0 ≤ bt155.1 then (if bt155.1 < (y152.length : Int) then (some (wrap64 ((wrap64 (t130 * 7919)) + t133), wrap64 ((wrap64 (t136 * 16777215)) + t139), rd y145 t148, rd y152 bt155.1, ([] : List Int), bt155.2.1, bt155.2.2)) else (none)) else (none))) = some (r1, r2, r3, r4, r5, r6, r7) := by first | (rw [hy152]; with_reducible exact H) | (have H2_ := (Option.bind_some _ _).symm.trans H; rw [hy152]; with_reducible exact H2_) | (have H2_ := (Option.bind_some _ _).symm.trans H; with_reducible exact H2_) | with_reducible exact H | (rw [hy152]; exact H) | exact H
   have Ny152 := Aside0.mk hy152
   clear hy152
   replace H := Option.bind_eq_some_iff.mp H
   obtain ⟨⟨t155, t156, t157⟩, A100, H⟩ := H
   replace H : (if 0 ≤ t155 then (if t155 < (y152.length : Int) then (some (wrap64 ((wrap64 (t130 * 7919)) + t133), wrap64 ((wrap64 (t136 * 16777215)) + t139), rd y145 t148, rd y152 t155, ([] : List Int), t156, t157)) else (none)) else (none)) = some (r1, r2, r3, r4, r5, r6, r7) := H
   have A10 := Aside0.mk A100
   clear A100
   by_cases c11 : 0 ≤ t155
   ·rw [if_pos c11] at H
    have c11b0 : decide (0 ≤ t155) = true := decide_eq_true c11
    clear c11
    by_cases c12 : t155 < (y152.length : Int)
    ·rw [if_pos c12] at H
     have c12b0 : decide (t155 < (y152.length : Int)) = true := decide_eq_true c12
     clear c12
     simp only [Option.some.injEq, Prod.mk.injEq] at H
     obtain ⟨rfl, rfl, rfl, rfl, rfl, rfl, rfl⟩ := H
     go_enter Try.func112, Try.ntmps112
     try go_wp2_with (first | ((with_reducible refine gate_dst (N := 2) rfl ?_); refine box_event ?hg (N := 2) ?hd (cs := #[.int .i64 0, .int .i64 0, .int .i64 0, .int .i64 0, .slice none 0 0]) (t := 32) ?hr ?_; (case hd => rfl); (case hg => rfl); (case hr => first | (go_simp; done) | (go_simp; rfl)); intro gb129 hg w13 hbox hb; have n0_ := Aside0.mk (IsS122.below (by repeat (first | (with_reducible first | exact HI0.out | apply IsS122.alloc | apply IsS122.drewN | apply IsS122.drew | apply IsS122.set_1 | apply IsS122.set_2) | exact HI0.out)) hb); have n1_ := Aside0.mk (KeepBut.trans (by repeat (first | (with_reducible first | exact HK.out | apply KeepBut.set_ | apply keep_drewN | apply keep_drew | apply keep_alloc) | exact HK.out)) (KeepBut.of_below hb g none) (.inl rfl)); have n2_ := Aside0.mk (below_step (by repeat (first | (with_reducible first | exact HB.out | apply below_alloc | apply pw_below_drewN | apply below_drew1 | refine below_set ?_ (IsS122.ge HI0.out)) | exact HB.out)) hb); have n3_ := Aside0.mk (hbox); have n4_ := Aside0.mk ((by rw [hg]; exact (keep_size (w := w) (g := g) (row := none) (by repeat (first | (with_reducible first | exact HK.out | apply KeepBut.set_ | apply keep_drewN | apply keep_drew | apply keep_alloc) | exact HK.out))) : w.heap.size ≤ gb129)); have n5_ := Aside0.mk ((Nat.le_trans HW0.out (by rw [hg]; exact (keep_size (w := w) (g := g) (row := none) (by repeat (first | (with_reducible first | exact HK.out | apply KeepBut.set_ | apply keep_drewN | apply keep_drew | apply keep_alloc) | exact HK.out))) : w.heap.size ≤ gb129) : w0.heap.size ≤ gb129)); have n6_ := Aside0.mk ((by rw [hg]; exact Nat.ne_of_lt (IsS122.lt (show IsS122 w0 _ g s0_0 s0_1 s0_2 from by repeat (first | (with_reducible first | exact HI0.out | apply IsS122.alloc | apply IsS122.drewN | apply IsS122.drew | apply IsS122.set_1 | apply IsS122.set_2) | exact HI0.out))) : g ≠ gb129)); have n7_ := Aside0.mk ((by rw [hg]; exact Nat.ne_of_gt (IsS122.lt (show IsS122 w0 _ g s0_0 s0_1 s0_2 from by repeat (first | (with_reducible first | exact HI0.out | apply IsS122.alloc | apply IsS122.drewN | apply IsS122.drew | apply IsS122.set_1 | apply IsS122.set_2) | exact HI0.out))) : gb129 ≠ g)); clear HI0; clear HK; clear HB; have HI0 := n0_; have HK := n1_; have HB := n2_; have BK129 := n3_; have GW129 := n4_; have GE129 := n5_; have NB0_129 := n6_; have NB129_0 := n7_; clear n0_ n1_ n2_ n3_ n4_ n5_ n6_ n7_; clear hb hbox hg))
     have pi151 : (0 ≤ (t148 : Int)) = True := eq_true (of_decide_eq_true (by first | (with_reducible assumption) | assumption))
     have qi151 : (t148 < (y145.length : Int)) = True := eq_true (of_decide_eq_true (by first | (with_reducible assumption) | assumption))
     have pi158 : (0 ≤ (t155 : Int)) = True := eq_true (of_decide_eq_true (by first | (with_reducible assumption) | assumption))
     have qi158 : (t155 < (y152.length : Int)) = True := eq_true (of_decide_eq_true (by first | (with_reducible assumption) | assumption))
     have n0_ := Aside0.mk (blk_drew BK129.out); have n1_ := Aside0.mk (IsS122.drew HI0.out); have n2_ := Aside0.mk (keep_drew HK.out); have n3_ := Aside0.mk (below_drew1 HB.out); clear BK129; clear HI0; clear HK; clear HB; have BK129 := n0_
     have HI0 := n1_
     have HK := n2_
     have HB := n3_; clear n0_ n1_ n2_ n3_
     refine start_ (n := 26) (S := fun w' => True) (ds := []) (bs 26 0) (by kernel_rfl) rfl rfl trivial (fun hHeld => ?_); refine with_tabW spec_l01Cur_ether.tab1 spec_l01Cur_ether.bits1 (fun HT_ HW_ => ?_)
     generalize w13.drew = w14 at BK129 HI0 HK HB hHeld ⊢
     refine pure_s (i := 0) (N := some 3) (bs 26 1) (any_of HT_.out (by kernel_rfl)) (h := ?_)
     refine pure_s (i := 3) (N := some 6) #[oT,oF,oF,oT,oF,oF,oF,oF,oF,oF,oF,oF,oF,oF,oF,oF,oF,oF,oF,oF,oF,oF,oF,oF,oF,oF] (any_of HT_.out (by kernel_rfl)) (h := ?_)
     refine pure_s (i := 6) (N := some 9) #[oT,oF,oF,oT,oF,oF,oT,oF,oF,oF,oF,oF,oF,oF,oF,oF,oF,oF,oF,oF,oF,oF,oF,oF,oF,oF] (any_of HT_.out (by kernel_rfl)) (h := ?_)
     refine pure_s (i := 9) (N := some 12) #[oT,oF,oF,oT,oF,oF,oT,oF,oF,oT,oF,oF,oF,oF,oF,oF,oF,oF,oF,oF,oF,oF,oF,oF,oF,oF] (any_of HT_.out (by kernel_rfl)) (h := ?_)
     refine pure_s (i := 12) (N := some 15) #[oT,oF,oF,oT,oF,oF,oT,oF,oF,oT,oF,oF,oT,oF,oF,oF,oF,oF,oF,oF,oF,oF,oF,oF,oF,oF] (any_of HT_.out (by kernel_rfl)) (h := ?_)
     refine pure_s (i := 15) (N := some 18) #[oT,oF,oF,oT,oF,oF,oT,oF,oF,oT,oF,oF,oT,oF,oF,oT,oF,oF,oF,oF,oF,oF,oF,oF,oF,oF] (any_of HT_.out (by kernel_rfl)) (h := ?_)
     refine pure_s (i := 20) (N := some 23) #[oT,oF,oF,oT,oF,oF,oT,oF,oF,oT,oF,oF,oT,oF,oF,oT,oF,oF,oF,oF,oT,oF,oF,oF,oF,oF] (any_of HT_.out (by kernel_rfl)) (h := ?_)
     refine inv_at [1, 2, 4, 5, 7, 8, 10, 11, 13, 14, 16, 17, 18, 19, 21, 22, 23, 24, 25] (fun a0_ b a w' => ∃ (v146 : Value) (adz_v146 : Addr) (v153 : Value) (adz_v153 : Addr) (m17_ : Value) (m22_ : Value), a = putSel a0_ b [(1, 4, .int .i64 t130), (2, 5, .int .i64 (wrap64 (t130 * 7919))), (4, 7, .int .i64 t133), (5, 8, .int .i64 (wrap64 ((wrap64 (t130 * 7919)) + t133))), (7, 10, .int .i64 t136), (8, 11, .int .i64 (wrap64 (t136 * 16777215))), (10, 13, .int .i64 t139), (11, 14, .int .i64 (wrap64 ((wrap64 (t136 * 16777215)) + t139))), (13, 16, .int .i64 t142), (14, 17, v146), (16, 19, .int .i64 t148), (17, 20, m17_), (18, 21, .int .i64 (rd y145 t148)), (19, 22, v153), (21, 24, .int .i64 t155), (22, 25, m22_), (23, 26, .int .i64 (rd y152 t155)), (24, 27, .agg #[.int .i64 (wrap64 ((wrap64 (t130 * 7919)) + t133)), .int .i64 (wrap64 ((wrap64 (t136 * 16777215)) + t139)), .int .i64 (rd y145 t148), .int .i64 (rd y152 t155), .slice none 0 0])] ∧ (b 25 = false → w'.heap[gb129]? = some (.cells #[.int .i64 0, .int .i64 0, .int .i64 0, .int .i64 0, .slice none 0 0] 32 (0, 0))) ∧ (b 1 = false → IsS122 w0 w' g s0_0 s0_1 s0_2) ∧ (KeepBut w w' g none) ∧ (Below w0.heap.size w0 w') ∧ (b 1 = true → b 4 = false → IsS122 w0 w' g s0_0 t131 t132) ∧ (b 4 = true → b 7 = false → IsS122 w0 w' g s0_0 t134 t135) ∧ (b 7 = true → b 10 = false → IsS122 w0 w' g s0_0 t137 t138) ∧ (b 10 = true → b 13 = false → IsS122 w0 w' g s0_0 t140 t141) ∧ (b 13 = true → b 16 = false → IsS122 w0 w' g s0_0 t143 t144) ∧ (b 14 = true → Kd.R (Kd.int .i64) 3 w' w.heap.size (fun _ => True) v146 y145) ∧ (b 14 = true → ∃ c_, (v146 : Value) = .slice (some adz_v146) y145.length c_) ∧ (b 16 = true → b 21 = false → IsS122 w0 w' g s0_0 t149 t150) ∧ (b 19 = true → Kd.R (Kd.int .i64) 3 w' w.heap.size (fun _ => True) v153 y152) ∧ (b 19 = true → ∃ c_, (v153 : Value) = .slice (some adz_v153) y152.length c_) ∧ (b 21 = true → IsS122 w0 w' g s0_0 t156 t157) ∧ (b 25 = true → w'.heap[gb129]? = some (.cells #[.int .i64 (wrap64 ((wrap64 (t130 * 7919)) + t133)), .int .i64 (wrap64 ((wrap64 (t136 * 16777215)) + t139)), .int .i64 (rd y145 t148), .int .i64 (rd y152 t155), .slice none 0 0] 32 (0, 0))) ∧ (b 17 = true → (m17_ : Value) = .pointer (some (adz_v146.add (t148).toNat))) ∧ (b 22 = true → (m22_ : Value) = .pointer (some (adz_v153.add (t155).toNat)))) HT_.out HW_.out (by kernel_rfl) (by kernel_rfl) ?_ ?_ ?_
     ·exact ⟨.bool false, ⟨0, 0, none⟩, .bool false, ⟨0, 0, none⟩, .bool false, .bool false, by simp only [putSel, Bool.false_eq_true, if_false], fun _ => BK129.out, fun _ => HI0.out, HK.out, HB.out, fun h_ => absurd h_ (by decide), fun h_ => absurd h_ (by decide), fun h_ => absurd h_ (by decide), fun h_ => absurd h_ (by decide), fun h_ => absurd h_ (by decide), fun h_ => absurd h_ (by decide), fun h_ => absurd h_ (by decide), fun h_ => absurd h_ (by decide), fun h_ => absurd h_ (by decide), fun h_ => absurd h_ (by decide), fun h_ => absurd h_ (by decide), fun h_ => absurd h_ (by decide), fun h_ => absurd h_ (by decide), fun h_ => absurd h_ (by decide)⟩
     ·skip
      clear BK129 HB HI0 HK
      refine steps_cons ?_ ?_
      ·rintro b a w' ⟨v146, adz_v146, v153, adz_v153, m17_, m22_, ha, Q_BK129, Q_HI0, Q_HK, Q_HB, Q_HI0_e1, Q_HI0_e4, Q_HI0_e7, Q_HI0_e10, Q_HI0_e13, Q_HO147, Q_HA_HO147, Q_HI0_e16, Q_HO154, Q_HA_HO154, Q_HI0_e21, Q_BK129_e25, Q_X17_, Q_X22_⟩ hb_ hon hoff
       refine ⟨_, rfl, fun K hK => ?_⟩
       have e3 : a.tmps[3]? = some (.pointer (some ⟨g, 0, none⟩)) := by rw [ha]; exact (putSel_off rfl).trans rfl
       replace ha := Aside0.mk ha
       have BK129 := Aside0.mk (Q_BK129 (hoff 25 (by kernel_rfl)))
       have HI0 := Aside0.mk (Q_HI0 hb_)
       have HK := Aside0.mk Q_HK
       have HB := Aside0.mk Q_HB
       refine goes_ Try.func97 (by kernel_rfl) rfl #[.pointer (some ⟨g, 0, none⟩), .int .i64 16777216] (by rfl) rfl rfl (by first | (simp only [List.map_toArray, List.map_cons, List.map_nil, Act.eval, Array.getD_eq_getD_getElem?, Option.getD_some, e3]; done) | (simp only [List.map_toArray, List.map_cons, List.map_nil, Act.eval, Array.getD_eq_getD_getElem?, Option.getD_some, e3]; rfl)) ?_
       with_reducible refine (spec_l01Cur_wide.calls g s0_0 s0_1 s0_2 16777216 t130 t131 t132 w0 _ ?side1 ?side2 A2.out).mono ?_
       (case side1 => repeat (first | (with_reducible first | exact HI0.out | apply IsS122.alloc | apply IsS122.drewN | apply IsS122.drew | apply IsS122.set_1 | apply IsS122.set_2 | refine IsS122.far ?_ NB0_129.out _) | exact HI0.out))
       (case side2 => repeat (first | (with_reducible first | exact HB.out | apply below_alloc | apply pw_below_drewN | apply below_drew1 | refine below_set ?_ (IsS122.ge HI0.out) | refine below_set ?_ GE129.out) | exact HB.out))
       rintro e w15 ⟨rfl, hi, hb, hk⟩
       refine ⟨_, rfl, ?_⟩
       have n0_ := Aside0.mk (KeepBut.blk hk (g' := gb129) (o := .cells #[.int .i64 0, .int .i64 0, .int .i64 0, .int .i64 0, .slice none 0 0] 32 (0, 0)) (bk_ BK129) NB129_0.out (by simp))
       have n1_ := Aside0.mk (KeepBut.trans (by repeat (first | (with_reducible first | exact HK.out | apply KeepBut.set_ | apply keep_drewN | apply keep_drew | apply keep_alloc | refine keep_far ?_ GW129.out _) | exact HK.out)) hk (.inl rfl))
       have n2_ := Aside0.mk (hb); have n3_ := Aside0.mk (hi)
       have z_HO154 := fun (h0_ : b 19 = true) => (show Kd.R (Kd.int .i64) 3 w15 w.heap.size (fun _ => True) v153 y152 from by first | exact (Kd.R_mono (Kd.R_keep (IsS122.apart (show IsS122 w0 _ g s0_0 s0_1 s0_2 from by repeat (first | (with_reducible first | exact HI0.out | apply IsS122.alloc | apply IsS122.drewN | apply IsS122.drew | apply IsS122.set_1 | apply IsS122.set_2 | refine IsS122.far ?_ NB0_129.out _) | exact HI0.out)) (by (with_reducible repeat (first | apply Kd.R_alloc | apply Kd.R_drewN | apply Kd.R_drew)); exact (Q_HO154 h0_)) (by decide)) hk (fun _ h => h.2)) (fun _ h => h.1)) | exact Kd.R_mono (Kd.R_mono (Kd.R_keep (IsS122.apart (show IsS122 w0 _ g s0_0 s0_1 s0_2 from by repeat (first | (with_reducible first | exact HI0.out | apply IsS122.alloc | apply IsS122.drewN | apply IsS122.drew | apply IsS122.set_1 | apply IsS122.set_2 | refine IsS122.far ?_ NB0_129.out _) | exact HI0.out)) (by (with_reducible repeat (first | apply Kd.R_alloc | apply Kd.R_drewN | apply Kd.R_drew)); exact (Q_HO154 h0_)) (by decide)) hk (fun _ h => h.2)) (fun _ h => h.1)) (fun _ h_ => by first | trivial | exact h_ | exact h_.1))
       clear BK129; clear HK; clear HB; clear HI0; have BK129 := n0_
       have HK := n1_
       have HB := n2_
       have HI0 := n3_
       clear n0_ n1_ n2_ n3_; (try clear hb); (try clear hb2); (try clear hk); (try clear hi)
       refine hK.out _ _ ⟨v146, adz_v146, v153, adz_v153, m17_, m22_, (by rw [ha.out]; exact putSel_upk 0 hb_ rfl rfl rfl), fun _ => (bk_ BK129), fun h0_ => absurd ((up_self b 1).symm.trans h0_) (by decide), (by repeat (first | (with_reducible first | exact HK.out | apply KeepBut.set_ | apply keep_drewN | apply keep_drew | apply keep_alloc | refine keep_far ?_ GW129.out _) | exact HK.out)), (by repeat (first | (with_reducible first | exact HB.out | apply below_alloc | apply pw_below_drewN | apply below_drew1 | refine below_set ?_ (IsS122.ge HI0.out) | refine below_set ?_ GE129.out) | exact HB.out)), fun _ _ => (by repeat (first | (with_reducible first | exact HI0.out | apply IsS122.alloc | apply IsS122.drewN | apply IsS122.drew | apply IsS122.set_1 | apply IsS122.set_2 | refine IsS122.far ?_ NB0_129.out _) | exact HI0.out)), fun h0_ _ => absurd ((hoff 4 (by kernel_rfl)).symm.trans h0_) (by decide), fun h0_ _ => absurd ((hoff 7 (by kernel_rfl)).symm.trans h0_) (by decide), fun h0_ _ => absurd ((hoff 10 (by kernel_rfl)).symm.trans h0_) (by decide), fun h0_ _ => absurd ((hoff 13 (by kernel_rfl)).symm.trans h0_) (by decide), fun h0_ => absurd ((hoff 14 (by kernel_rfl)).symm.trans h0_) (by decide), fun h0_ => absurd ((hoff 14 (by kernel_rfl)).symm.trans h0_) (by decide), fun h0_ _ => absurd ((hoff 16 (by kernel_rfl)).symm.trans h0_) (by decide), z_HO154, Q_HA_HO154, fun h0_ => absurd ((hoff 21 (by kernel_rfl)).symm.trans h0_) (by decide), fun h0_ => absurd ((hoff 25 (by kernel_rfl)).symm.trans h0_) (by decide), fun h0_ => absurd ((hoff 17 (by kernel_rfl)).symm.trans h0_) (by decide), fun h0_ => absurd ((hoff 22 (by kernel_rfl)).symm.trans h0_) (by decide)⟩
      refine steps_cons ?_ ?_
      ·rintro b a w' ⟨v146, adz_v146, v153, adz_v153, m17_, m22_, ha, Q_BK129, Q_HI0, Q_HK, Q_HB, Q_HI0_e1, Q_HI0_e4, Q_HI0_e7, Q_HI0_e10, Q_HI0_e13, Q_HO147, Q_HA_HO147, Q_HI0_e16, Q_HO154, Q_HA_HO154, Q_HI0_e21, Q_BK129_e25, Q_X17_, Q_X22_⟩ hb_ hon hoff
       refine ⟨_, rfl, fun K hK => ?_⟩
       have e4 : a.tmps[4]? = some (.int .i64 t130) := by rw [ha]; exact putSel_on (e := (1, 4, .int .i64 t130)) 0 rfl rfl (hon 1 (by kernel_rfl)) rfl
       replace ha := Aside0.mk ha
       have BK129 := Aside0.mk (Q_BK129 (hoff 25 (by kernel_rfl)))
       have HK := Aside0.mk Q_HK
       have HB := Aside0.mk Q_HB
       refine value_ (w1 := w') (v := .int .i64 (wrap64 (t130 * 7919))) (by rfl) rfl ?_ ?_
       ·go_simp
        (try simp only [i64_w])
        try rfl
       refine hK.out _ _ ⟨v146, adz_v146, v153, adz_v153, m17_, m22_, (by rw [ha.out]; exact putSel_upk 1 hb_ rfl rfl rfl), Q_BK129, fun h0_ => absurd ((hon 1 (by kernel_rfl)).symm.trans h0_) (by decide), Q_HK, Q_HB, Q_HI0_e1, Q_HI0_e4, Q_HI0_e7, Q_HI0_e10, Q_HI0_e13, Q_HO147, Q_HA_HO147, Q_HI0_e16, Q_HO154, Q_HA_HO154, Q_HI0_e21, fun h0_ => absurd ((hoff 25 (by kernel_rfl)).symm.trans h0_) (by decide), Q_X17_, Q_X22_⟩
      refine steps_cons ?_ ?_
      ·rintro b a w' ⟨v146, adz_v146, v153, adz_v153, m17_, m22_, ha, Q_BK129, Q_HI0, Q_HK, Q_HB, Q_HI0_e1, Q_HI0_e4, Q_HI0_e7, Q_HI0_e10, Q_HI0_e13, Q_HO147, Q_HA_HO147, Q_HI0_e16, Q_HO154, Q_HA_HO154, Q_HI0_e21, Q_BK129_e25, Q_X17_, Q_X22_⟩ hb_ hon hoff
       refine ⟨_, rfl, fun K hK => ?_⟩
       have e6 : a.tmps[6]? = some (.pointer (some ⟨g, 0, none⟩)) := by rw [ha]; exact (putSel_off rfl).trans rfl
       replace ha := Aside0.mk ha
       have BK129 := Aside0.mk (Q_BK129 (hoff 25 (by kernel_rfl)))
       have HK := Aside0.mk Q_HK
       have HB := Aside0.mk Q_HB
       have HI0 := Aside0.mk (Q_HI0_e1 (hon 1 (by kernel_rfl)) hb_)
       refine goes_ Try.func44 (by kernel_rfl) rfl #[.pointer (some ⟨g, 0, none⟩), .int .i64 256] (by rfl) rfl rfl (by first | (simp only [List.map_toArray, List.map_cons, List.map_nil, Act.eval, Array.getD_eq_getD_getElem?, Option.getD_some, e6]; done) | (simp only [List.map_toArray, List.map_cons, List.map_nil, Act.eval, Array.getD_eq_getD_getElem?, Option.getD_some, e6]; rfl)) ?_
       with_reducible refine (spec_l01Cur_pick.calls g s0_0 t131 t132 256 t133 t134 t135 w0 _ ?side1 ?side2 A3.out).mono ?_
       (case side1 => repeat (first | (with_reducible first | exact HI0.out | apply IsS122.alloc | apply IsS122.drewN | apply IsS122.drew | apply IsS122.set_1 | apply IsS122.set_2 | refine IsS122.far ?_ NB0_129.out _) | exact HI0.out))
       (case side2 => repeat (first | (with_reducible first | exact HB.out | apply below_alloc | apply pw_below_drewN | apply below_drew1 | refine below_set ?_ (IsS122.ge HI0.out) | refine below_set ?_ GE129.out) | exact HB.out))
       rintro e w17 ⟨rfl, hi, hb, hk⟩
       refine ⟨_, rfl, ?_⟩
       have n0_ := Aside0.mk (KeepBut.blk hk (g' := gb129) (o := .cells #[.int .i64 0, .int .i64 0, .int .i64 0, .int .i64 0, .slice none 0 0] 32 (0, 0)) (bk_ BK129) NB129_0.out (by simp))
       have n1_ := Aside0.mk (KeepBut.trans (by repeat (first | (with_reducible first | exact HK.out | apply KeepBut.set_ | apply keep_drewN | apply keep_drew | apply keep_alloc | refine keep_far ?_ GW129.out _) | exact HK.out)) hk (.inl rfl))
       have n2_ := Aside0.mk (hb); have n3_ := Aside0.mk (hi)
       have z_HO154 := fun (h0_ : b 19 = true) => (show Kd.R (Kd.int .i64) 3 w17 w.heap.size (fun _ => True) v153 y152 from by first | exact (Kd.R_mono (Kd.R_keep (IsS122.apart (show IsS122 w0 _ g s0_0 t131 t132 from by repeat (first | (with_reducible first | exact HI0.out | apply IsS122.alloc | apply IsS122.drewN | apply IsS122.drew | apply IsS122.set_1 | apply IsS122.set_2 | refine IsS122.far ?_ NB0_129.out _) | exact HI0.out)) (by (with_reducible repeat (first | apply Kd.R_alloc | apply Kd.R_drewN | apply Kd.R_drew)); exact (Q_HO154 h0_)) (by decide)) hk (fun _ h => h.2)) (fun _ h => h.1)) | exact Kd.R_mono (Kd.R_mono (Kd.R_keep (IsS122.apart (show IsS122 w0 _ g s0_0 t131 t132 from by repeat (first | (with_reducible first | exact HI0.out | apply IsS122.alloc | apply IsS122.drewN | apply IsS122.drew | apply IsS122.set_1 | apply IsS122.set_2 | refine IsS122.far ?_ NB0_129.out _) | exact HI0.out)) (by (with_reducible repeat (first | apply Kd.R_alloc | apply Kd.R_drewN | apply Kd.R_drew)); exact (Q_HO154 h0_)) (by decide)) hk (fun _ h => h.2)) (fun _ h => h.1)) (fun _ h_ => by first | trivial | exact h_ | exact h_.1))
       clear BK129; clear HK; clear HB; clear HI0; have BK129 := n0_
       have HK := n1_
       have HB := n2_
       have HI0 := n3_
       clear n0_ n1_ n2_ n3_; (try clear hb); (try clear hb2); (try clear hk); (try clear hi)
       refine hK.out _ _ ⟨v146, adz_v146, v153, adz_v153, m17_, m22_, (by rw [ha.out]; exact putSel_upk 2 hb_ rfl rfl rfl), fun _ => (bk_ BK129), fun h0_ => absurd ((hon 1 (by kernel_rfl)).symm.trans h0_) (by decide), (by repeat (first | (with_reducible first | exact HK.out | apply KeepBut.set_ | apply keep_drewN | apply keep_drew | apply keep_alloc | refine keep_far ?_ GW129.out _) | exact HK.out)), (by repeat (first | (with_reducible first | exact HB.out | apply below_alloc | apply pw_below_drewN | apply below_drew1 | refine below_set ?_ (IsS122.ge HI0.out) | refine below_set ?_ GE129.out) | exact HB.out)), fun _ h1_ => absurd ((up_self b 4).symm.trans h1_) (by decide), fun _ _ => (by repeat (first | (with_reducible first | exact HI0.out | apply IsS122.alloc | apply IsS122.drewN | apply IsS122.drew | apply IsS122.set_1 | apply IsS122.set_2 | refine IsS122.far ?_ NB0_129.out _) | exact HI0.out)), fun h0_ _ => absurd ((hoff 7 (by kernel_rfl)).symm.trans h0_) (by decide), fun h0_ _ => absurd ((hoff 10 (by kernel_rfl)).symm.trans h0_) (by decide), fun h0_ _ => absurd ((hoff 13 (by kernel_rfl)).symm.trans h0_) (by decide), fun h0_ => absurd ((hoff 14 (by kernel_rfl)).symm.trans h0_) (by decide), fun h0_ => absurd ((hoff 14 (by kernel_rfl)).symm.trans h0_) (by decide), fun h0_ _ => absurd ((hoff 16 (by kernel_rfl)).symm.trans h0_) (by decide), z_HO154, Q_HA_HO154, fun h0_ => absurd ((hoff 21 (by kernel_rfl)).symm.trans h0_) (by decide), fun h0_ => absurd ((hoff 25 (by kernel_rfl)).symm.trans h0_) (by decide), fun h0_ => absurd ((hoff 17 (by kernel_rfl)).symm.trans h0_) (by decide), fun h0_ => absurd ((hoff 22 (by kernel_rfl)).symm.trans h0_) (by decide)⟩
      refine steps_cons ?_ ?_
      ·rintro b a w' ⟨v146, adz_v146, v153, adz_v153, m17_, m22_, ha, Q_BK129, Q_HI0, Q_HK, Q_HB, Q_HI0_e1, Q_HI0_e4, Q_HI0_e7, Q_HI0_e10, Q_HI0_e13, Q_HO147, Q_HA_HO147, Q_HI0_e16, Q_HO154, Q_HA_HO154, Q_HI0_e21, Q_BK129_e25, Q_X17_, Q_X22_⟩ hb_ hon hoff
       refine ⟨_, rfl, fun K hK => ?_⟩
       have e5 : a.tmps[5]? = some (.int .i64 (wrap64 (t130 * 7919))) := by rw [ha]; exact putSel_on (e := (2, 5, .int .i64 (wrap64 (t130 * 7919)))) 1 rfl rfl (hon 2 (by kernel_rfl)) rfl
       have e7 : a.tmps[7]? = some (.int .i64 t133) := by rw [ha]; exact putSel_on (e := (4, 7, .int .i64 t133)) 2 rfl rfl (hon 4 (by kernel_rfl)) rfl
       replace ha := Aside0.mk ha
       have BK129 := Aside0.mk (Q_BK129 (hoff 25 (by kernel_rfl)))
       have HK := Aside0.mk Q_HK
       have HB := Aside0.mk Q_HB
       refine value_ (w1 := w') (v := .int .i64 (wrap64 ((wrap64 (t130 * 7919)) + t133))) (by rfl) rfl ?_ ?_
       ·go_simp
        (try simp only [i64_w])
        try rfl
       refine hK.out _ _ ⟨v146, adz_v146, v153, adz_v153, m17_, m22_, (by rw [ha.out]; exact putSel_upk 3 hb_ rfl rfl rfl), Q_BK129, fun h0_ => absurd ((hon 1 (by kernel_rfl)).symm.trans h0_) (by decide), Q_HK, Q_HB, fun _ h1_ => absurd ((hon 4 (by kernel_rfl)).symm.trans h1_) (by decide), Q_HI0_e4, Q_HI0_e7, Q_HI0_e10, Q_HI0_e13, Q_HO147, Q_HA_HO147, Q_HI0_e16, Q_HO154, Q_HA_HO154, Q_HI0_e21, fun h0_ => absurd ((hoff 25 (by kernel_rfl)).symm.trans h0_) (by decide), Q_X17_, Q_X22_⟩
      refine steps_cons ?_ ?_
      ·rintro b a w' ⟨v146, adz_v146, v153, adz_v153, m17_, m22_, ha, Q_BK129, Q_HI0, Q_HK, Q_HB, Q_HI0_e1, Q_HI0_e4, Q_HI0_e7, Q_HI0_e10, Q_HI0_e13, Q_HO147, Q_HA_HO147, Q_HI0_e16, Q_HO154, Q_HA_HO154, Q_HI0_e21, Q_BK129_e25, Q_X17_, Q_X22_⟩ hb_ hon hoff
       refine ⟨_, rfl, fun K hK => ?_⟩
       have e9 : a.tmps[9]? = some (.pointer (some ⟨g, 0, none⟩)) := by rw [ha]; exact (putSel_off rfl).trans rfl
       replace ha := Aside0.mk ha
       have BK129 := Aside0.mk (Q_BK129 (hoff 25 (by kernel_rfl)))
       have HK := Aside0.mk Q_HK
       have HB := Aside0.mk Q_HB
       have HI0 := Aside0.mk (Q_HI0_e4 (hon 4 (by kernel_rfl)) hb_)
       refine goes_ Try.func97 (by kernel_rfl) rfl #[.pointer (some ⟨g, 0, none⟩), .int .i64 16777216] (by rfl) rfl rfl (by first | (simp only [List.map_toArray, List.map_cons, List.map_nil, Act.eval, Array.getD_eq_getD_getElem?, Option.getD_some, e9]; done) | (simp only [List.map_toArray, List.map_cons, List.map_nil, Act.eval, Array.getD_eq_getD_getElem?, Option.getD_some, e9]; rfl)) ?_
       with_reducible refine (spec_l01Cur_wide.calls g s0_0 t134 t135 16777216 t136 t137 t138 w0 _ ?side1 ?side2 A4.out).mono ?_
       (case side1 => repeat (first | (with_reducible first | exact HI0.out | apply IsS122.alloc | apply IsS122.drewN | apply IsS122.drew | apply IsS122.set_1 | apply IsS122.set_2 | refine IsS122.far ?_ NB0_129.out _) | exact HI0.out))
       (case side2 => repeat (first | (with_reducible first | exact HB.out | apply below_alloc | apply pw_below_drewN | apply below_drew1 | refine below_set ?_ (IsS122.ge HI0.out) | refine below_set ?_ GE129.out) | exact HB.out))
       rintro e w18 ⟨rfl, hi, hb, hk⟩
       refine ⟨_, rfl, ?_⟩
       have n0_ := Aside0.mk (KeepBut.blk hk (g' := gb129) (o := .cells #[.int .i64 0, .int .i64 0, .int .i64 0, .int .i64 0, .slice none 0 0] 32 (0, 0)) (bk_ BK129) NB129_0.out (by simp))
       have n1_ := Aside0.mk (KeepBut.trans (by repeat (first | (with_reducible first | exact HK.out | apply KeepBut.set_ | apply keep_drewN | apply keep_drew | apply keep_alloc | refine keep_far ?_ GW129.out _) | exact HK.out)) hk (.inl rfl))
       have n2_ := Aside0.mk (hb); have n3_ := Aside0.mk (hi)
       have z_HO154 := fun (h0_ : b 19 = true) => (show Kd.R (Kd.int .i64) 3 w18 w.heap.size (fun _ => True) v153 y152 from by first | exact (Kd.R_mono (Kd.R_keep (IsS122.apart (show IsS122 w0 _ g s0_0 t134 t135 from by repeat (first | (with_reducible first | exact HI0.out | apply IsS122.alloc | apply IsS122.drewN | apply IsS122.drew | apply IsS122.set_1 | apply IsS122.set_2 | refine IsS122.far ?_ NB0_129.out _) | exact HI0.out)) (by (with_reducible repeat (first | apply Kd.R_alloc | apply Kd.R_drewN | apply Kd.R_drew)); exact (Q_HO154 h0_)) (by decide)) hk (fun _ h => h.2)) (fun _ h => h.1)) | exact Kd.R_mono (Kd.R_mono (Kd.R_keep (IsS122.apart (show IsS122 w0 _ g s0_0 t134 t135 from by repeat (first | (with_reducible first | exact HI0.out | apply IsS122.alloc | apply IsS122.drewN | apply IsS122.drew | apply IsS122.set_1 | apply IsS122.set_2 | refine IsS122.far ?_ NB0_129.out _) | exact HI0.out)) (by (with_reducible repeat (first | apply Kd.R_alloc | apply Kd.R_drewN | apply Kd.R_drew)); exact (Q_HO154 h0_)) (by decide)) hk (fun _ h => h.2)) (fun _ h => h.1)) (fun _ h_ => by first | trivial | exact h_ | exact h_.1))
       clear BK129; clear HK; clear HB; clear HI0; have BK129 := n0_
       have HK := n1_
       have HB := n2_
       have HI0 := n3_
       clear n0_ n1_ n2_ n3_; (try clear hb); (try clear hb2); (try clear hk); (try clear hi)
       refine hK.out _ _ ⟨v146, adz_v146, v153, adz_v153, m17_, m22_, (by rw [ha.out]; exact putSel_upk 4 hb_ rfl rfl rfl), fun _ => (bk_ BK129), fun h0_ => absurd ((hon 1 (by kernel_rfl)).symm.trans h0_) (by decide), (by repeat (first | (with_reducible first | exact HK.out | apply KeepBut.set_ | apply keep_drewN | apply keep_drew | apply keep_alloc | refine keep_far ?_ GW129.out _) | exact HK.out)), (by repeat (first | (with_reducible first | exact HB.out | apply below_alloc | apply pw_below_drewN | apply below_drew1 | refine below_set ?_ (IsS122.ge HI0.out) | refine below_set ?_ GE129.out) | exact HB.out)), fun _ h1_ => absurd ((hon 4 (by kernel_rfl)).symm.trans h1_) (by decide), fun _ h1_ => absurd ((up_self b 7).symm.trans h1_) (by decide), fun _ _ => (by repeat (first | (with_reducible first | exact HI0.out | apply IsS122.alloc | apply IsS122.drewN | apply IsS122.drew | apply IsS122.set_1 | apply IsS122.set_2 | refine IsS122.far ?_ NB0_129.out _) | exact HI0.out)), fun h0_ _ => absurd ((hoff 10 (by kernel_rfl)).symm.trans h0_) (by decide), fun h0_ _ => absurd ((hoff 13 (by kernel_rfl)).symm.trans h0_) (by decide), fun h0_ => absurd ((hoff 14 (by kernel_rfl)).symm.trans h0_) (by decide), fun h0_ => absurd ((hoff 14 (by kernel_rfl)).symm.trans h0_) (by decide), fun h0_ _ => absurd ((hoff 16 (by kernel_rfl)).symm.trans h0_) (by decide), z_HO154, Q_HA_HO154, fun h0_ => absurd ((hoff 21 (by kernel_rfl)).symm.trans h0_) (by decide), fun h0_ => absurd ((hoff 25 (by kernel_rfl)).symm.trans h0_) (by decide), fun h0_ => absurd ((hoff 17 (by kernel_rfl)).symm.trans h0_) (by decide), fun h0_ => absurd ((hoff 22 (by kernel_rfl)).symm.trans h0_) (by decide)⟩
      refine steps_cons ?_ ?_
      ·rintro b a w' ⟨v146, adz_v146, v153, adz_v153, m17_, m22_, ha, Q_BK129, Q_HI0, Q_HK, Q_HB, Q_HI0_e1, Q_HI0_e4, Q_HI0_e7, Q_HI0_e10, Q_HI0_e13, Q_HO147, Q_HA_HO147, Q_HI0_e16, Q_HO154, Q_HA_HO154, Q_HI0_e21, Q_BK129_e25, Q_X17_, Q_X22_⟩ hb_ hon hoff
       refine ⟨_, rfl, fun K hK => ?_⟩
       have e10 : a.tmps[10]? = some (.int .i64 t136) := by rw [ha]; exact putSel_on (e := (7, 10, .int .i64 t136)) 4 rfl rfl (hon 7 (by kernel_rfl)) rfl
       replace ha := Aside0.mk ha
       have BK129 := Aside0.mk (Q_BK129 (hoff 25 (by kernel_rfl)))
       have HK := Aside0.mk Q_HK
       have HB := Aside0.mk Q_HB
       refine value_ (w1 := w') (v := .int .i64 (wrap64 (t136 * 16777215))) (by rfl) rfl ?_ ?_
       ·go_simp
        (try simp only [i64_w])
        try rfl
       refine hK.out _ _ ⟨v146, adz_v146, v153, adz_v153, m17_, m22_, (by rw [ha.out]; exact putSel_upk 5 hb_ rfl rfl rfl), Q_BK129, fun h0_ => absurd ((hon 1 (by kernel_rfl)).symm.trans h0_) (by decide), Q_HK, Q_HB, fun _ h1_ => absurd ((hon 4 (by kernel_rfl)).symm.trans h1_) (by decide), fun _ h1_ => absurd ((hon 7 (by kernel_rfl)).symm.trans h1_) (by decide), Q_HI0_e7, Q_HI0_e10, Q_HI0_e13, Q_HO147, Q_HA_HO147, Q_HI0_e16, Q_HO154, Q_HA_HO154, Q_HI0_e21, fun h0_ => absurd ((hoff 25 (by kernel_rfl)).symm.trans h0_) (by decide), Q_X17_, Q_X22_⟩
      refine steps_cons ?_ ?_
      ·rintro b a w' ⟨v146, adz_v146, v153, adz_v153, m17_, m22_, ha, Q_BK129, Q_HI0, Q_HK, Q_HB, Q_HI0_e1, Q_HI0_e4, Q_HI0_e7, Q_HI0_e10, Q_HI0_e13, Q_HO147, Q_HA_HO147, Q_HI0_e16, Q_HO154, Q_HA_HO154, Q_HI0_e21, Q_BK129_e25, Q_X17_, Q_X22_⟩ hb_ hon hoff
       refine ⟨_, rfl, fun K hK => ?_⟩
       have e12 : a.tmps[12]? = some (.pointer (some ⟨g, 0, none⟩)) := by rw [ha]; exact (putSel_off rfl).trans rfl
       replace ha := Aside0.mk ha
       have BK129 := Aside0.mk (Q_BK129 (hoff 25 (by kernel_rfl)))
       have HK := Aside0.mk Q_HK
       have HB := Aside0.mk Q_HB
       have HI0 := Aside0.mk (Q_HI0_e7 (hon 7 (by kernel_rfl)) hb_)
       refine goes_ Try.func44 (by kernel_rfl) rfl #[.pointer (some ⟨g, 0, none⟩), .int .i64 256] (by rfl) rfl rfl (by first | (simp only [List.map_toArray, List.map_cons, List.map_nil, Act.eval, Array.getD_eq_getD_getElem?, Option.getD_some, e12]; done) | (simp only [List.map_toArray, List.map_cons, List.map_nil, Act.eval, Array.getD_eq_getD_getElem?, Option.getD_some, e12]; rfl)) ?_
       with_reducible refine (spec_l01Cur_pick.calls g s0_0 t137 t138 256 t139 t140 t141 w0 _ ?side1 ?side2 A5.out).mono ?_
       (case side1 => repeat (first | (with_reducible first | exact HI0.out | apply IsS122.alloc | apply IsS122.drewN | apply IsS122.drew | apply IsS122.set_1 | apply IsS122.set_2 | refine IsS122.far ?_ NB0_129.out _) | exact HI0.out))
       (case side2 => repeat (first | (with_reducible first | exact HB.out | apply below_alloc | apply pw_below_drewN | apply below_drew1 | refine below_set ?_ (IsS122.ge HI0.out) | refine below_set ?_ GE129.out) | exact HB.out))
       rintro e w19 ⟨rfl, hi, hb, hk⟩
       refine ⟨_, rfl, ?_⟩
       have n0_ := Aside0.mk (KeepBut.blk hk (g' := gb129) (o := .cells #[.int .i64 0, .int .i64 0, .int .i64 0, .int .i64 0, .slice none 0 0] 32 (0, 0)) (bk_ BK129) NB129_0.out (by simp))
       have n1_ := Aside0.mk (KeepBut.trans (by repeat (first | (with_reducible first | exact HK.out | apply KeepBut.set_ | apply keep_drewN | apply keep_drew | apply keep_alloc | refine keep_far ?_ GW129.out _) | exact HK.out)) hk (.inl rfl))
       have n2_ := Aside0.mk (hb); have n3_ := Aside0.mk (hi)
       have z_HO154 := fun (h0_ : b 19 = true) => (show Kd.R (Kd.int .i64) 3 w19 w.heap.size (fun _ => True) v153 y152 from by first | exact (Kd.R_mono (Kd.R_keep (IsS122.apart (show IsS122 w0 _ g s0_0 t137 t138 from by repeat (first | (with_reducible first | exact HI0.out | apply IsS122.alloc | apply IsS122.drewN | apply IsS122.drew | apply IsS122.set_1 | apply IsS122.set_2 | refine IsS122.far ?_ NB0_129.out _) | exact HI0.out)) (by (with_reducible repeat (first | apply Kd.R_alloc | apply Kd.R_drewN | apply Kd.R_drew)); exact (Q_HO154 h0_)) (by decide)) hk (fun _ h => h.2)) (fun _ h => h.1)) | exact Kd.R_mono (Kd.R_mono (Kd.R_keep (IsS122.apart (show IsS122 w0 _ g s0_0 t137 t138 from by repeat (first | (with_reducible first | exact HI0.out | apply IsS122.alloc | apply IsS122.drewN | apply IsS122.drew | apply IsS122.set_1 | apply IsS122.set_2 | refine IsS122.far ?_ NB0_129.out _) | exact HI0.out)) (by (with_reducible repeat (first | apply Kd.R_alloc | apply Kd.R_drewN | apply Kd.R_drew)); exact (Q_HO154 h0_)) (by decide)) hk (fun _ h => h.2)) (fun _ h => h.1)) (fun _ h_ => by first | trivial | exact h_ | exact h_.1))
       clear BK129; clear HK; clear HB; clear HI0; have BK129 := n0_
       have HK := n1_
       have HB := n2_
       have HI0 := n3_
       clear n0_ n1_ n2_ n3_; (try clear hb); (try clear hb2); (try clear hk); (try clear hi)
       refine hK.out _ _ ⟨v146, adz_v146, v153, adz_v153, m17_, m22_, (by rw [ha.out]; exact putSel_upk 6 hb_ rfl rfl rfl), fun _ => (bk_ BK129), fun h0_ => absurd ((hon 1 (by kernel_rfl)).symm.trans h0_) (by decide), (by repeat (first | (with_reducible first | exact HK.out | apply KeepBut.set_ | apply keep_drewN | apply keep_drew | apply keep_alloc | refine keep_far ?_ GW129.out _) | exact HK.out)), (by repeat (first | (with_reducible first | exact HB.out | apply below_alloc | apply pw_below_drewN | apply below_drew1 | refine below_set ?_ (IsS122.ge HI0.out) | refine below_set ?_ GE129.out) | exact HB.out)), fun _ h1_ => absurd ((hon 4 (by kernel_rfl)).symm.trans h1_) (by decide), fun _ h1_ => absurd ((hon 7 (by kernel_rfl)).symm.trans h1_) (by decide), fun _ h1_ => absurd ((up_self b 10).symm.trans h1_) (by decide), fun _ _ => (by repeat (first | (with_reducible first | exact HI0.out | apply IsS122.alloc | apply IsS122.drewN | apply IsS122.drew | apply IsS122.set_1 | apply IsS122.set_2 | refine IsS122.far ?_ NB0_129.out _) | exact HI0.out)), fun h0_ _ => absurd ((hoff 13 (by kernel_rfl)).symm.trans h0_) (by decide), fun h0_ => absurd ((hoff 14 (by kernel_rfl)).symm.trans h0_) (by decide), fun h0_ => absurd ((hoff 14 (by kernel_rfl)).symm.trans h0_) (by decide), fun h0_ _ => absurd ((hoff 16 (by kernel_rfl)).symm.trans h0_) (by decide), z_HO154, Q_HA_HO154, fun h0_ => absurd ((hoff 21 (by kernel_rfl)).symm.trans h0_) (by decide), fun h0_ => absurd ((hoff 25 (by kernel_rfl)).symm.trans h0_) (by decide), fun h0_ => absurd ((hoff 17 (by kernel_rfl)).symm.trans h0_) (by decide), fun h0_ => absurd ((hoff 22 (by kernel_rfl)).symm.trans h0_) (by decide)⟩
      refine steps_cons ?_ ?_
      ·rintro b a w' ⟨v146, adz_v146, v153, adz_v153, m17_, m22_, ha, Q_BK129, Q_HI0, Q_HK, Q_HB, Q_HI0_e1, Q_HI0_e4, Q_HI0_e7, Q_HI0_e10, Q_HI0_e13, Q_HO147, Q_HA_HO147, Q_HI0_e16, Q_HO154, Q_HA_HO154, Q_HI0_e21, Q_BK129_e25, Q_X17_, Q_X22_⟩ hb_ hon hoff
       refine ⟨_, rfl, fun K hK => ?_⟩
       have e11 : a.tmps[11]? = some (.int .i64 (wrap64 (t136 * 16777215))) := by rw [ha]; exact putSel_on (e := (8, 11, .int .i64 (wrap64 (t136 * 16777215)))) 5 rfl rfl (hon 8 (by kernel_rfl)) rfl
       have e13 : a.tmps[13]? = some (.int .i64 t139) := by rw [ha]; exact putSel_on (e := (10, 13, .int .i64 t139)) 6 rfl rfl (hon 10 (by kernel_rfl)) rfl
       replace ha := Aside0.mk ha
       have BK129 := Aside0.mk (Q_BK129 (hoff 25 (by kernel_rfl)))
       have HK := Aside0.mk Q_HK
       have HB := Aside0.mk Q_HB
       refine value_ (w1 := w') (v := .int .i64 (wrap64 ((wrap64 (t136 * 16777215)) + t139))) (by rfl) rfl ?_ ?_
       ·go_simp
        (try simp only [i64_w])
        try rfl
       refine hK.out _ _ ⟨v146, adz_v146, v153, adz_v153, m17_, m22_, (by rw [ha.out]; exact putSel_upk 7 hb_ rfl rfl rfl), Q_BK129, fun h0_ => absurd ((hon 1 (by kernel_rfl)).symm.trans h0_) (by decide), Q_HK, Q_HB, fun _ h1_ => absurd ((hon 4 (by kernel_rfl)).symm.trans h1_) (by decide), fun _ h1_ => absurd ((hon 7 (by kernel_rfl)).symm.trans h1_) (by decide), fun _ h1_ => absurd ((hon 10 (by kernel_rfl)).symm.trans h1_) (by decide), Q_HI0_e10, Q_HI0_e13, Q_HO147, Q_HA_HO147, Q_HI0_e16, Q_HO154, Q_HA_HO154, Q_HI0_e21, fun h0_ => absurd ((hoff 25 (by kernel_rfl)).symm.trans h0_) (by decide), Q_X17_, Q_X22_⟩
      refine steps_cons ?_ ?_
      ·rintro b a w' ⟨v146, adz_v146, v153, adz_v153, m17_, m22_, ha, Q_BK129, Q_HI0, Q_HK, Q_HB, Q_HI0_e1, Q_HI0_e4, Q_HI0_e7, Q_HI0_e10, Q_HI0_e13, Q_HO147, Q_HA_HO147, Q_HI0_e16, Q_HO154, Q_HA_HO154, Q_HI0_e21, Q_BK129_e25, Q_X17_, Q_X22_⟩ hb_ hon hoff
       refine ⟨_, rfl, fun K hK => ?_⟩
       have e15 : a.tmps[15]? = some (.pointer (some ⟨g, 0, none⟩)) := by rw [ha]; exact (putSel_off rfl).trans rfl
       replace ha := Aside0.mk ha
       have BK129 := Aside0.mk (Q_BK129 (hoff 25 (by kernel_rfl)))
       have HK := Aside0.mk Q_HK
       have HB := Aside0.mk Q_HB
       have HI0 := Aside0.mk (Q_HI0_e10 (hon 10 (by kernel_rfl)) hb_)
       refine goes_ Try.func97 (by kernel_rfl) rfl #[.pointer (some ⟨g, 0, none⟩), .int .i64 65536] (by rfl) rfl rfl (by first | (simp only [List.map_toArray, List.map_cons, List.map_nil, Act.eval, Array.getD_eq_getD_getElem?, Option.getD_some, e15]; done) | (simp only [List.map_toArray, List.map_cons, List.map_nil, Act.eval, Array.getD_eq_getD_getElem?, Option.getD_some, e15]; rfl)) ?_
       with_reducible refine (spec_l01Cur_wide.calls g s0_0 t140 t141 65536 t142 t143 t144 w0 _ ?side1 ?side2 A6.out).mono ?_
       (case side1 => repeat (first | (with_reducible first | exact HI0.out | apply IsS122.alloc | apply IsS122.drewN | apply IsS122.drew | apply IsS122.set_1 | apply IsS122.set_2 | refine IsS122.far ?_ NB0_129.out _) | exact HI0.out))
       (case side2 => repeat (first | (with_reducible first | exact HB.out | apply below_alloc | apply pw_below_drewN | apply below_drew1 | refine below_set ?_ (IsS122.ge HI0.out) | refine below_set ?_ GE129.out) | exact HB.out))
       rintro e w20 ⟨rfl, hi, hb, hk⟩
       refine ⟨_, rfl, ?_⟩
       have n0_ := Aside0.mk (KeepBut.blk hk (g' := gb129) (o := .cells #[.int .i64 0, .int .i64 0, .int .i64 0, .int .i64 0, .slice none 0 0] 32 (0, 0)) (bk_ BK129) NB129_0.out (by simp))
       have n1_ := Aside0.mk (KeepBut.trans (by repeat (first | (with_reducible first | exact HK.out | apply KeepBut.set_ | apply keep_drewN | apply keep_drew | apply keep_alloc | refine keep_far ?_ GW129.out _) | exact HK.out)) hk (.inl rfl))
       have n2_ := Aside0.mk (hb); have n3_ := Aside0.mk (hi)
       have z_HO154 := fun (h0_ : b 19 = true) => (show Kd.R (Kd.int .i64) 3 w20 w.heap.size (fun _ => True) v153 y152 from by first | exact (Kd.R_mono (Kd.R_keep (IsS122.apart (show IsS122 w0 _ g s0_0 t140 t141 from by repeat (first | (with_reducible first | exact HI0.out | apply IsS122.alloc | apply IsS122.drewN | apply IsS122.drew | apply IsS122.set_1 | apply IsS122.set_2 | refine IsS122.far ?_ NB0_129.out _) | exact HI0.out)) (by (with_reducible repeat (first | apply Kd.R_alloc | apply Kd.R_drewN | apply Kd.R_drew)); exact (Q_HO154 h0_)) (by decide)) hk (fun _ h => h.2)) (fun _ h => h.1)) | exact Kd.R_mono (Kd.R_mono (Kd.R_keep (IsS122.apart (show IsS122 w0 _ g s0_0 t140 t141 from by repeat (first | (with_reducible first | exact HI0.out | apply IsS122.alloc | apply IsS122.drewN | apply IsS122.drew | apply IsS122.set_1 | apply IsS122.set_2 | refine IsS122.far ?_ NB0_129.out _) | exact HI0.out)) (by (with_reducible repeat (first | apply Kd.R_alloc | apply Kd.R_drewN | apply Kd.R_drew)); exact (Q_HO154 h0_)) (by decide)) hk (fun _ h => h.2)) (fun _ h => h.1)) (fun _ h_ => by first | trivial | exact h_ | exact h_.1))
       clear BK129; clear HK; clear HB; clear HI0; have BK129 := n0_
       have HK := n1_
       have HB := n2_
       have HI0 := n3_
       clear n0_ n1_ n2_ n3_; (try clear hb); (try clear hb2); (try clear hk); (try clear hi)
       refine hK.out _ _ ⟨v146, adz_v146, v153, adz_v153, m17_, m22_, (by rw [ha.out]; exact putSel_upk 8 hb_ rfl rfl rfl), fun _ => (bk_ BK129), fun h0_ => absurd ((hon 1 (by kernel_rfl)).symm.trans h0_) (by decide), (by repeat (first | (with_reducible first | exact HK.out | apply KeepBut.set_ | apply keep_drewN | apply keep_drew | apply keep_alloc | refine keep_far ?_ GW129.out _) | exact HK.out)), (by repeat (first | (with_reducible first | exact HB.out | apply below_alloc | apply pw_below_drewN | apply below_drew1 | refine below_set ?_ (IsS122.ge HI0.out) | refine below_set ?_ GE129.out) | exact HB.out)), fun _ h1_ => absurd ((hon 4 (by kernel_rfl)).symm.trans h1_) (by decide), fun _ h1_ => absurd ((hon 7 (by kernel_rfl)).symm.trans h1_) (by decide), fun _ h1_ => absurd ((hon 10 (by kernel_rfl)).symm.trans h1_) (by decide), fun _ h1_ => absurd ((up_self b 13).symm.trans h1_) (by decide), fun _ _ => (by repeat (first | (with_reducible first | exact HI0.out | apply IsS122.alloc | apply IsS122.drewN | apply IsS122.drew | apply IsS122.set_1 | apply IsS122.set_2 | refine IsS122.far ?_ NB0_129.out _) | exact HI0.out)), fun h0_ => absurd ((hoff 14 (by kernel_rfl)).symm.trans h0_) (by decide), fun h0_ => absurd ((hoff 14 (by kernel_rfl)).symm.trans h0_) (by decide), fun h0_ _ => absurd ((hoff 16 (by kernel_rfl)).symm.trans h0_) (by decide), z_HO154, Q_HA_HO154, fun h0_ => absurd ((hoff 21 (by kernel_rfl)).symm.trans h0_) (by decide), fun h0_ => absurd ((hoff 25 (by kernel_rfl)).symm.trans h0_) (by decide), fun h0_ => absurd ((hoff 17 (by kernel_rfl)).symm.trans h0_) (by decide), fun h0_ => absurd ((hoff 22 (by kernel_rfl)).symm.trans h0_) (by decide)⟩
      refine steps_cons ?_ ?_
      ·rintro b a w' ⟨v146, adz_v146, v153, adz_v153, m17_, m22_, ha, Q_BK129, Q_HI0, Q_HK, Q_HB, Q_HI0_e1, Q_HI0_e4, Q_HI0_e7, Q_HI0_e10, Q_HI0_e13, Q_HO147, Q_HA_HO147, Q_HI0_e16, Q_HO154, Q_HA_HO154, Q_HI0_e21, Q_BK129_e25, Q_X17_, Q_X22_⟩ hb_ hon hoff
       refine ⟨_, rfl, fun K hK => ?_⟩
       have e16 : a.tmps[16]? = some (.int .i64 t142) := by rw [ha]; exact putSel_on (e := (13, 16, .int .i64 t142)) 8 rfl rfl (hon 13 (by kernel_rfl)) rfl
       replace ha := Aside0.mk ha
       have BK129 := Aside0.mk (Q_BK129 (hoff 25 (by kernel_rfl)))
       have HK := Aside0.mk Q_HK
       have HB := Aside0.mk Q_HB
       refine Kd.R_lit_step (Kd.int .i64) _ 3 ?hg (N := 17) ?hd (xs := ([(-1), (-1), t142, 0, 65535] : List Int)) (inner := [.int .i64 (-1), .int .i64 (-1), .int .i64 t142, .int .i64 0, .int .i64 65535]) (ok := fun _ => True) (okp := fun _ => True) ?hr ?hp (fun _ hk => by first | exact hk | grind) trivial (Below.refl _ _) (Nat.le_refl _) (by simp) ?_; (case hd => rfl); (case hg => rfl); (case hr => first | (go_simp; done) | (go_simp; rfl)); (case hp => exact (Reps.one (show Kd.M (Kd.int .i64) _ _ _ (-1) [.int .i64 (-1)] from rfl) (Reps.one (show Kd.M (Kd.int .i64) _ _ _ (-1) [.int .i64 (-1)] from rfl) (Reps.one (show Kd.M (Kd.int .i64) _ _ _ t142 [.int .i64 t142] from rfl) (Reps.one (show Kd.M (Kd.int .i64) _ _ _ 0 [.int .i64 0] from rfl) (Reps.one (show Kd.M (Kd.int .i64) _ _ _ 65535 [.int .i64 65535] from rfl) (Reps.none _ _)))))))
       intro v146 w21 ho22 hb hg_ hnew_
       clear hg_ hnew_
       (first | rw [← Ny145.out] at ho22 | (simp only [Int.reduceToNat] at ho22; rw [← Ny145.out] at ho22))
       have n0_ := Aside0.mk (Kd.R_lower ho22 (keep_size (w := w) (g := g) (row := none) (by repeat (first | (with_reducible first | exact HK.out | apply KeepBut.set_ | apply keep_drewN | apply keep_drew | apply keep_alloc | refine keep_far ?_ GW129.out _) | exact HK.out))))
       have n2_ := bb_ BK129 hb
       have n3_ := Aside0.mk (KeepBut.trans (by repeat (first | (with_reducible first | exact HK.out | apply KeepBut.set_ | apply keep_drewN | apply keep_drew | apply keep_alloc | refine keep_far ?_ GW129.out _) | exact HK.out)) (KeepBut.of_below hb g none) (.inl rfl))
       have n4_ := Aside0.mk (below_step (bf_ HB) hb)
       have z_HI0_e13 := fun (h0_ : b 13 = true) (h1_ : b 16 = false) => (show IsS122 w0 w21 g s0_0 t143 t144 from by first | exact (IsS122.below (by repeat (first | (with_reducible first | exact (Q_HI0_e13 h0_ h1_) | apply IsS122.alloc | apply IsS122.drewN | apply IsS122.drew | apply IsS122.set_1 | apply IsS122.set_2 | refine IsS122.far ?_ NB0_129.out _) | exact (Q_HI0_e13 h0_ h1_))) hb))
       have z_HI0_e16 := fun (h0_ : b 16 = true) (h1_ : b 21 = false) => (show IsS122 w0 w21 g s0_0 t149 t150 from by first | exact (IsS122.below (by repeat (first | (with_reducible first | exact (Q_HI0_e16 h0_ h1_) | apply IsS122.alloc | apply IsS122.drewN | apply IsS122.drew | apply IsS122.set_1 | apply IsS122.set_2 | refine IsS122.far ?_ NB0_129.out _) | exact (Q_HI0_e16 h0_ h1_))) hb))
       have z_HO154 := fun (h0_ : b 19 = true) => (show Kd.R (Kd.int .i64) 3 w21 w.heap.size (fun _ => True) v153 y152 from by first | exact (Kd.R_elder' (by (with_reducible repeat (first | apply Kd.R_alloc | apply Kd.R_drewN | apply Kd.R_drew)); exact (Q_HO154 h0_)) (Kd.R_base ho22) hb) | exact Kd.R_mono (Kd.R_elder' (by (with_reducible repeat (first | apply Kd.R_alloc | apply Kd.R_drewN | apply Kd.R_drew)); exact (Q_HO154 h0_)) (Kd.R_base ho22) hb) (fun _ h_ => by first | trivial | exact h_ | exact h_.1))
       have z_HI0_e21 := fun (h0_ : b 21 = true) => (show IsS122 w0 w21 g s0_0 t156 t157 from by first | exact (IsS122.below (by repeat (first | (with_reducible first | exact (Q_HI0_e21 h0_) | apply IsS122.alloc | apply IsS122.drewN | apply IsS122.drew | apply IsS122.set_1 | apply IsS122.set_2 | refine IsS122.far ?_ NB0_129.out _) | exact (Q_HI0_e21 h0_))) hb))
       clear BK129; clear HK; clear HB; have HO147 := n0_; have BK129 := n2_
       have HK := n3_
       have HB := n4_; clear n0_ n2_ n3_ n4_; clear hb ho22
       obtain ⟨Ao23, co23, eo23⟩ := Kd.R_slice HO147.out
       subst eo23
       obtain ⟨ado23, fo23, _⟩ := Kd.at_int (Kd.R_reads' HO147.out).2.2 0 (by decide) (by rw [Ny145.out]; simp)
       cases fo23
       refine hK.out _ _ ⟨.slice (some ado23) y145.length co23, ado23, v153, adz_v153, m17_, m22_, (by rw [ha.out]; exact putSel_upk 9 hb_ rfl rfl rfl), fun _ => (bk_ BK129), fun h0_ => absurd ((hon 1 (by kernel_rfl)).symm.trans h0_) (by decide), (by repeat (first | (with_reducible first | exact HK.out | apply KeepBut.set_ | apply keep_drewN | apply keep_drew | apply keep_alloc | refine keep_far ?_ GW129.out _) | exact HK.out)), (bf_ HB), fun _ h1_ => absurd ((hon 4 (by kernel_rfl)).symm.trans h1_) (by decide), fun _ h1_ => absurd ((hon 7 (by kernel_rfl)).symm.trans h1_) (by decide), fun _ h1_ => absurd ((hon 10 (by kernel_rfl)).symm.trans h1_) (by decide), fun _ h1_ => absurd ((hon 13 (by kernel_rfl)).symm.trans h1_) (by decide), z_HI0_e13, fun _ => (kr_ HO147), fun _ => ⟨_, rfl⟩, z_HI0_e16, z_HO154, Q_HA_HO154, z_HI0_e21, fun h0_ => absurd ((hoff 25 (by kernel_rfl)).symm.trans h0_) (by decide), fun h0_ => absurd ((hoff 17 (by kernel_rfl)).symm.trans h0_) (by decide), Q_X22_⟩
      refine steps_cons ?_ ?_
      ·rintro b a w' ⟨v146, adz_v146, v153, adz_v153, m17_, m22_, ha, Q_BK129, Q_HI0, Q_HK, Q_HB, Q_HI0_e1, Q_HI0_e4, Q_HI0_e7, Q_HI0_e10, Q_HI0_e13, Q_HO147, Q_HA_HO147, Q_HI0_e16, Q_HO154, Q_HA_HO154, Q_HI0_e21, Q_BK129_e25, Q_X17_, Q_X22_⟩ hb_ hon hoff
       refine ⟨_, rfl, fun K hK => ?_⟩
       have e18 : a.tmps[18]? = some (.pointer (some ⟨g, 0, none⟩)) := by rw [ha]; exact (putSel_off rfl).trans rfl
       replace ha := Aside0.mk ha
       have BK129 := Aside0.mk (Q_BK129 (hoff 25 (by kernel_rfl)))
       have HK := Aside0.mk Q_HK
       have HB := Aside0.mk Q_HB
       have HI0 := Aside0.mk (Q_HI0_e13 (hon 13 (by kernel_rfl)) hb_)
       refine goes_ Try.func44 (by kernel_rfl) rfl #[.pointer (some ⟨g, 0, none⟩), .int .i64 5] (by rfl) rfl rfl (by first | (simp only [List.map_toArray, List.map_cons, List.map_nil, Act.eval, Array.getD_eq_getD_getElem?, Option.getD_some, e18]; done) | (simp only [List.map_toArray, List.map_cons, List.map_nil, Act.eval, Array.getD_eq_getD_getElem?, Option.getD_some, e18]; rfl)) ?_
       with_reducible refine (spec_l01Cur_pick.calls g s0_0 t143 t144 5 t148 t149 t150 w0 _ ?side1 ?side2 A7.out).mono ?_
       (case side1 => repeat (first | (with_reducible first | exact HI0.out | apply IsS122.alloc | apply IsS122.drewN | apply IsS122.drew | apply IsS122.set_1 | apply IsS122.set_2 | refine IsS122.far ?_ NB0_129.out _) | exact HI0.out))
       (case side2 => repeat (first | (with_reducible first | exact HB.out | apply below_alloc | apply pw_below_drewN | apply below_drew1 | refine below_set ?_ (IsS122.ge HI0.out) | refine below_set ?_ GE129.out) | exact HB.out))
       rintro e w21 ⟨rfl, hi, hb, hk⟩
       refine ⟨_, rfl, ?_⟩
       have n0_ := Aside0.mk (KeepBut.blk hk (g' := gb129) (o := .cells #[.int .i64 0, .int .i64 0, .int .i64 0, .int .i64 0, .slice none 0 0] 32 (0, 0)) (bk_ BK129) NB129_0.out (by simp))
       have n1_ := Aside0.mk (KeepBut.trans (by repeat (first | (with_reducible first | exact HK.out | apply KeepBut.set_ | apply keep_drewN | apply keep_drew | apply keep_alloc | refine keep_far ?_ GW129.out _) | exact HK.out)) hk (.inl rfl))
       have n2_ := Aside0.mk (hb); have n3_ := Aside0.mk (hi)
       have z_HO147 := fun (h0_ : b 14 = true) => (show Kd.R (Kd.int .i64) 3 w21 w.heap.size (fun _ => True) v146 y145 from by first | exact (Kd.R_mono (Kd.R_keep (IsS122.apart (show IsS122 w0 _ g s0_0 t143 t144 from by repeat (first | (with_reducible first | exact HI0.out | apply IsS122.alloc | apply IsS122.drewN | apply IsS122.drew | apply IsS122.set_1 | apply IsS122.set_2 | refine IsS122.far ?_ NB0_129.out _) | exact HI0.out)) (by (with_reducible repeat (first | apply Kd.R_alloc | apply Kd.R_drewN | apply Kd.R_drew)); exact (Q_HO147 h0_)) (by decide)) hk (fun _ h => h.2)) (fun _ h => h.1)) | exact Kd.R_mono (Kd.R_mono (Kd.R_keep (IsS122.apart (show IsS122 w0 _ g s0_0 t143 t144 from by repeat (first | (with_reducible first | exact HI0.out | apply IsS122.alloc | apply IsS122.drewN | apply IsS122.drew | apply IsS122.set_1 | apply IsS122.set_2 | refine IsS122.far ?_ NB0_129.out _) | exact HI0.out)) (by (with_reducible repeat (first | apply Kd.R_alloc | apply Kd.R_drewN | apply Kd.R_drew)); exact (Q_HO147 h0_)) (by decide)) hk (fun _ h => h.2)) (fun _ h => h.1)) (fun _ h_ => by first | trivial | exact h_ | exact h_.1))
       have z_HO154 := fun (h0_ : b 19 = true) => (show Kd.R (Kd.int .i64) 3 w21 w.heap.size (fun _ => True) v153 y152 from by first | exact (Kd.R_mono (Kd.R_keep (IsS122.apart (show IsS122 w0 _ g s0_0 t143 t144 from by repeat (first | (with_reducible first | exact HI0.out | apply IsS122.alloc | apply IsS122.drewN | apply IsS122.drew | apply IsS122.set_1 | apply IsS122.set_2 | refine IsS122.far ?_ NB0_129.out _) | exact HI0.out)) (by (with_reducible repeat (first | apply Kd.R_alloc | apply Kd.R_drewN | apply Kd.R_drew)); exact (Q_HO154 h0_)) (by decide)) hk (fun _ h => h.2)) (fun _ h => h.1)) | exact Kd.R_mono (Kd.R_mono (Kd.R_keep (IsS122.apart (show IsS122 w0 _ g s0_0 t143 t144 from by repeat (first | (with_reducible first | exact HI0.out | apply IsS122.alloc | apply IsS122.drewN | apply IsS122.drew | apply IsS122.set_1 | apply IsS122.set_2 | refine IsS122.far ?_ NB0_129.out _) | exact HI0.out)) (by (with_reducible repeat (first | apply Kd.R_alloc | apply Kd.R_drewN | apply Kd.R_drew)); exact (Q_HO154 h0_)) (by decide)) hk (fun _ h => h.2)) (fun _ h => h.1)) (fun _ h_ => by first | trivial | exact h_ | exact h_.1))
       clear BK129; clear HK; clear HB; clear HI0; have BK129 := n0_
       have HK := n1_
       have HB := n2_
       have HI0 := n3_
       clear n0_ n1_ n2_ n3_; (try clear hb); (try clear hb2); (try clear hk); (try clear hi)
       refine hK.out _ _ ⟨v146, adz_v146, v153, adz_v153, m17_, m22_, (by rw [ha.out]; exact putSel_upk 10 hb_ rfl rfl rfl), fun _ => (bk_ BK129), fun h0_ => absurd ((hon 1 (by kernel_rfl)).symm.trans h0_) (by decide), (by repeat (first | (with_reducible first | exact HK.out | apply KeepBut.set_ | apply keep_drewN | apply keep_drew | apply keep_alloc | refine keep_far ?_ GW129.out _) | exact HK.out)), (by repeat (first | (with_reducible first | exact HB.out | apply below_alloc | apply pw_below_drewN | apply below_drew1 | refine below_set ?_ (IsS122.ge HI0.out) | refine below_set ?_ GE129.out) | exact HB.out)), fun _ h1_ => absurd ((hon 4 (by kernel_rfl)).symm.trans h1_) (by decide), fun _ h1_ => absurd ((hon 7 (by kernel_rfl)).symm.trans h1_) (by decide), fun _ h1_ => absurd ((hon 10 (by kernel_rfl)).symm.trans h1_) (by decide), fun _ h1_ => absurd ((hon 13 (by kernel_rfl)).symm.trans h1_) (by decide), fun _ h1_ => absurd ((up_self b 16).symm.trans h1_) (by decide), z_HO147, Q_HA_HO147, fun _ _ => (by repeat (first | (with_reducible first | exact HI0.out | apply IsS122.alloc | apply IsS122.drewN | apply IsS122.drew | apply IsS122.set_1 | apply IsS122.set_2 | refine IsS122.far ?_ NB0_129.out _) | exact HI0.out)), z_HO154, Q_HA_HO154, fun h0_ => absurd ((hoff 21 (by kernel_rfl)).symm.trans h0_) (by decide), fun h0_ => absurd ((hoff 25 (by kernel_rfl)).symm.trans h0_) (by decide), fun h0_ => absurd ((hoff 17 (by kernel_rfl)).symm.trans h0_) (by decide), fun h0_ => absurd ((hoff 22 (by kernel_rfl)).symm.trans h0_) (by decide)⟩
      refine steps_cons ?_ ?_
      ·rintro b a w' ⟨v146, adz_v146, v153, adz_v153, m17_, m22_, ha, Q_BK129, Q_HI0, Q_HK, Q_HB, Q_HI0_e1, Q_HI0_e4, Q_HI0_e7, Q_HI0_e10, Q_HI0_e13, Q_HO147, Q_HA_HO147, Q_HI0_e16, Q_HO154, Q_HA_HO154, Q_HI0_e21, Q_BK129_e25, Q_X17_, Q_X22_⟩ hb_ hon hoff
       refine ⟨_, rfl, fun K hK => ?_⟩
       have e17 : a.tmps[17]? = some (v146) := by rw [ha]; exact putSel_on (e := (14, 17, v146)) 9 rfl rfl (hon 14 (by kernel_rfl)) rfl
       have e19 : a.tmps[19]? = some (.int .i64 t148) := by rw [ha]; exact putSel_on (e := (16, 19, .int .i64 t148)) 10 rfl rfl (hon 16 (by kernel_rfl)) rfl
       replace ha := Aside0.mk ha
       have BK129 := Aside0.mk (Q_BK129 (hoff 25 (by kernel_rfl)))
       have HK := Aside0.mk Q_HK
       have HB := Aside0.mk Q_HB
       have HO147 := Aside0.mk (Q_HO147 (hon 14 (by kernel_rfl)))
       have HA_HO147 := Aside0.mk (Q_HA_HO147 (hon 14 (by kernel_rfl)))
       obtain ⟨c_, hv_⟩ := HA_HO147.out
       rw [hv_] at e17
       refine value_ (w1 := w') (v := .pointer (some (adz_v146.add (t148).toNat))) (by rfl) rfl ?_ ?_
       ·go_simp
        (try simp only [i64_w])
        try rfl
       refine hK.out _ _ ⟨v146, adz_v146, v153, adz_v153, (.pointer (some (adz_v146.add (t148).toNat))), m22_, (by rw [ha.out]; exact putSel_upk 11 hb_ rfl rfl rfl), Q_BK129, fun h0_ => absurd ((hon 1 (by kernel_rfl)).symm.trans h0_) (by decide), Q_HK, Q_HB, fun _ h1_ => absurd ((hon 4 (by kernel_rfl)).symm.trans h1_) (by decide), fun _ h1_ => absurd ((hon 7 (by kernel_rfl)).symm.trans h1_) (by decide), fun _ h1_ => absurd ((hon 10 (by kernel_rfl)).symm.trans h1_) (by decide), fun _ h1_ => absurd ((hon 13 (by kernel_rfl)).symm.trans h1_) (by decide), fun _ h1_ => absurd ((hon 16 (by kernel_rfl)).symm.trans h1_) (by decide), Q_HO147, Q_HA_HO147, Q_HI0_e16, Q_HO154, Q_HA_HO154, Q_HI0_e21, fun h0_ => absurd ((hoff 25 (by kernel_rfl)).symm.trans h0_) (by decide), fun _ => rfl, Q_X22_⟩
      refine steps_cons ?_ ?_
      ·rintro b a w' ⟨v146, adz_v146, v153, adz_v153, m17_, m22_, ha, Q_BK129, Q_HI0, Q_HK, Q_HB, Q_HI0_e1, Q_HI0_e4, Q_HI0_e7, Q_HI0_e10, Q_HI0_e13, Q_HO147, Q_HA_HO147, Q_HI0_e16, Q_HO154, Q_HA_HO154, Q_HI0_e21, Q_BK129_e25, Q_X17_, Q_X22_⟩ hb_ hon hoff
       refine ⟨_, rfl, fun K hK => ?_⟩
       have e20 : a.tmps[20]? = some (m17_) := by rw [ha]; exact putSel_on (e := (17, 20, m17_)) 11 rfl rfl (hon 17 (by kernel_rfl)) rfl
       rw [Q_X17_ (hon 17 (by kernel_rfl))] at e20
       replace ha := Aside0.mk ha
       have BK129 := Aside0.mk (Q_BK129 (hoff 25 (by kernel_rfl)))
       have HK := Aside0.mk Q_HK
       have HB := Aside0.mk Q_HB
       have HO147 := Aside0.mk (Q_HO147 (hon 14 (by kernel_rfl)))
       have HA_HO147 := Aside0.mk (Q_HA_HO147 (hon 14 (by kernel_rfl)))
       obtain ⟨c_, hv_⟩ := HA_HO147.out
       have hF_ := HO147.out
       rw [hv_] at hF_
       obtain ⟨ad_, ea_, hx_⟩ := Kd.at_int (Kd.R_reads' hF_).2.2 t148 (of_eq_true pi151) (of_eq_true qi151)
       cases ea_
       refine value_ (w1 := w') (v := .int .i64 (rd y145 t148)) (by rfl) rfl ?_ ?_
       ·go_simp
        (try simp only [i64_w])
        try rfl
       refine hK.out _ _ ⟨v146, adz_v146, v153, adz_v153, m17_, m22_, (by rw [ha.out]; exact putSel_upk 12 hb_ rfl rfl rfl), Q_BK129, fun h0_ => absurd ((hon 1 (by kernel_rfl)).symm.trans h0_) (by decide), Q_HK, Q_HB, fun _ h1_ => absurd ((hon 4 (by kernel_rfl)).symm.trans h1_) (by decide), fun _ h1_ => absurd ((hon 7 (by kernel_rfl)).symm.trans h1_) (by decide), fun _ h1_ => absurd ((hon 10 (by kernel_rfl)).symm.trans h1_) (by decide), fun _ h1_ => absurd ((hon 13 (by kernel_rfl)).symm.trans h1_) (by decide), fun _ h1_ => absurd ((hon 16 (by kernel_rfl)).symm.trans h1_) (by decide), Q_HO147, Q_HA_HO147, Q_HI0_e16, Q_HO154, Q_HA_HO154, Q_HI0_e21, fun h0_ => absurd ((hoff 25 (by kernel_rfl)).symm.trans h0_) (by decide), Q_X17_, Q_X22_⟩
      refine steps_cons ?_ ?_
      ·rintro b a w' ⟨v146, adz_v146, v153, adz_v153, m17_, m22_, ha, Q_BK129, Q_HI0, Q_HK, Q_HB, Q_HI0_e1, Q_HI0_e4, Q_HI0_e7, Q_HI0_e10, Q_HI0_e13, Q_HO147, Q_HA_HO147, Q_HI0_e16, Q_HO154, Q_HA_HO154, Q_HI0_e21, Q_BK129_e25, Q_X17_, Q_X22_⟩ hb_ hon hoff
       refine ⟨_, rfl, fun K hK => ?_⟩
       replace ha := Aside0.mk ha
       have BK129 := Aside0.mk (Q_BK129 (hoff 25 (by kernel_rfl)))
       have HK := Aside0.mk Q_HK
       have HB := Aside0.mk Q_HB
       refine Kd.R_lit_step (Kd.int .i64) _ 3 ?hg (N := 22) ?hd (xs := ([2048, 34525, 2054, 1536, 65535, 2048] : List Int)) (inner := [.int .i64 2048, .int .i64 34525, .int .i64 2054, .int .i64 1536, .int .i64 65535, .int .i64 2048]) (ok := fun _ => True) (okp := fun _ => True) ?hr ?hp (fun _ hk => by first | exact hk | grind) trivial (Below.refl _ _) (Nat.le_refl _) (by simp) ?_; (case hd => rfl); (case hg => rfl); (case hr => first | (go_simp; done) | (go_simp; rfl)); (case hp => exact (Reps.one (show Kd.M (Kd.int .i64) _ _ _ 2048 [.int .i64 2048] from rfl) (Reps.one (show Kd.M (Kd.int .i64) _ _ _ 34525 [.int .i64 34525] from rfl) (Reps.one (show Kd.M (Kd.int .i64) _ _ _ 2054 [.int .i64 2054] from rfl) (Reps.one (show Kd.M (Kd.int .i64) _ _ _ 1536 [.int .i64 1536] from rfl) (Reps.one (show Kd.M (Kd.int .i64) _ _ _ 65535 [.int .i64 65535] from rfl) (Reps.one (show Kd.M (Kd.int .i64) _ _ _ 2048 [.int .i64 2048] from rfl) (Reps.none _ _))))))))
       intro v153 w15 ho16 hb hg_ hnew_
       clear hg_ hnew_
       (first | rw [← Ny152.out] at ho16 | (simp only [Int.reduceToNat] at ho16; rw [← Ny152.out] at ho16))
       have n0_ := Aside0.mk (Kd.R_lower ho16 (keep_size (w := w) (g := g) (row := none) (by repeat (first | (with_reducible first | exact HK.out | apply KeepBut.set_ | apply keep_drewN | apply keep_drew | apply keep_alloc | refine keep_far ?_ GW129.out _) | exact HK.out))))
       have n2_ := bb_ BK129 hb
       have n3_ := Aside0.mk (KeepBut.trans (by repeat (first | (with_reducible first | exact HK.out | apply KeepBut.set_ | apply keep_drewN | apply keep_drew | apply keep_alloc | refine keep_far ?_ GW129.out _) | exact HK.out)) (KeepBut.of_below hb g none) (.inl rfl))
       have n4_ := Aside0.mk (below_step (bf_ HB) hb)
       have z_HI0 := fun (h0_ : b 1 = false) => (show IsS122 w0 w15 g s0_0 s0_1 s0_2 from by first | exact (IsS122.below (by repeat (first | (with_reducible first | exact (Q_HI0 h0_) | apply IsS122.alloc | apply IsS122.drewN | apply IsS122.drew | apply IsS122.set_1 | apply IsS122.set_2 | refine IsS122.far ?_ NB0_129.out _) | exact (Q_HI0 h0_))) hb))
       have z_HI0_e1 := fun (h0_ : b 1 = true) (h1_ : b 4 = false) => (show IsS122 w0 w15 g s0_0 t131 t132 from by first | exact (IsS122.below (by repeat (first | (with_reducible first | exact (Q_HI0_e1 h0_ h1_) | apply IsS122.alloc | apply IsS122.drewN | apply IsS122.drew | apply IsS122.set_1 | apply IsS122.set_2 | refine IsS122.far ?_ NB0_129.out _) | exact (Q_HI0_e1 h0_ h1_))) hb))
       have z_HI0_e4 := fun (h0_ : b 4 = true) (h1_ : b 7 = false) => (show IsS122 w0 w15 g s0_0 t134 t135 from by first | exact (IsS122.below (by repeat (first | (with_reducible first | exact (Q_HI0_e4 h0_ h1_) | apply IsS122.alloc | apply IsS122.drewN | apply IsS122.drew | apply IsS122.set_1 | apply IsS122.set_2 | refine IsS122.far ?_ NB0_129.out _) | exact (Q_HI0_e4 h0_ h1_))) hb))
       have z_HI0_e7 := fun (h0_ : b 7 = true) (h1_ : b 10 = false) => (show IsS122 w0 w15 g s0_0 t137 t138 from by first | exact (IsS122.below (by repeat (first | (with_reducible first | exact (Q_HI0_e7 h0_ h1_) | apply IsS122.alloc | apply IsS122.drewN | apply IsS122.drew | apply IsS122.set_1 | apply IsS122.set_2 | refine IsS122.far ?_ NB0_129.out _) | exact (Q_HI0_e7 h0_ h1_))) hb))
       have z_HI0_e10 := fun (h0_ : b 10 = true) (h1_ : b 13 = false) => (show IsS122 w0 w15 g s0_0 t140 t141 from by first | exact (IsS122.below (by repeat (first | (with_reducible first | exact (Q_HI0_e10 h0_ h1_) | apply IsS122.alloc | apply IsS122.drewN | apply IsS122.drew | apply IsS122.set_1 | apply IsS122.set_2 | refine IsS122.far ?_ NB0_129.out _) | exact (Q_HI0_e10 h0_ h1_))) hb))
       have z_HI0_e13 := fun (h0_ : b 13 = true) (h1_ : b 16 = false) => (show IsS122 w0 w15 g s0_0 t143 t144 from by first | exact (IsS122.below (by repeat (first | (with_reducible first | exact (Q_HI0_e13 h0_ h1_) | apply IsS122.alloc | apply IsS122.drewN | apply IsS122.drew | apply IsS122.set_1 | apply IsS122.set_2 | refine IsS122.far ?_ NB0_129.out _) | exact (Q_HI0_e13 h0_ h1_))) hb))
       have z_HO147 := fun (h0_ : b 14 = true) => (show Kd.R (Kd.int .i64) 3 w15 w.heap.size (fun _ => True) v146 y145 from by first | exact (Kd.R_elder' (by (with_reducible repeat (first | apply Kd.R_alloc | apply Kd.R_drewN | apply Kd.R_drew)); exact (Q_HO147 h0_)) (Kd.R_base ho16) hb) | exact Kd.R_mono (Kd.R_elder' (by (with_reducible repeat (first | apply Kd.R_alloc | apply Kd.R_drewN | apply Kd.R_drew)); exact (Q_HO147 h0_)) (Kd.R_base ho16) hb) (fun _ h_ => by first | trivial | exact h_ | exact h_.1))
       have z_HI0_e16 := fun (h0_ : b 16 = true) (h1_ : b 21 = false) => (show IsS122 w0 w15 g s0_0 t149 t150 from by first | exact (IsS122.below (by repeat (first | (with_reducible first | exact (Q_HI0_e16 h0_ h1_) | apply IsS122.alloc | apply IsS122.drewN | apply IsS122.drew | apply IsS122.set_1 | apply IsS122.set_2 | refine IsS122.far ?_ NB0_129.out _) | exact (Q_HI0_e16 h0_ h1_))) hb))
       have z_HI0_e21 := fun (h0_ : b 21 = true) => (show IsS122 w0 w15 g s0_0 t156 t157 from by first | exact (IsS122.below (by repeat (first | (with_reducible first | exact (Q_HI0_e21 h0_) | apply IsS122.alloc | apply IsS122.drewN | apply IsS122.drew | apply IsS122.set_1 | apply IsS122.set_2 | refine IsS122.far ?_ NB0_129.out _) | exact (Q_HI0_e21 h0_))) hb))
       clear BK129; clear HK; clear HB; have HO154 := n0_; have BK129 := n2_
       have HK := n3_
       have HB := n4_; clear n0_ n2_ n3_ n4_; clear hb ho16
       obtain ⟨Ao17, co17, eo17⟩ := Kd.R_slice HO154.out
       subst eo17
       obtain ⟨ado17, fo17, _⟩ := Kd.at_int (Kd.R_reads' HO154.out).2.2 0 (by decide) (by rw [Ny152.out]; simp)
       cases fo17
       refine hK.out _ _ ⟨v146, adz_v146, .slice (some ado17) y152.length co17, ado17, m17_, m22_, (by rw [ha.out]; exact putSel_upk 13 hb_ rfl rfl rfl), fun _ => (bk_ BK129), z_HI0, (by repeat (first | (with_reducible first | exact HK.out | apply KeepBut.set_ | apply keep_drewN | apply keep_drew | apply keep_alloc | refine keep_far ?_ GW129.out _) | exact HK.out)), (bf_ HB), z_HI0_e1, z_HI0_e4, z_HI0_e7, z_HI0_e10, z_HI0_e13, z_HO147, Q_HA_HO147, z_HI0_e16, fun _ => (kr_ HO154), fun _ => ⟨_, rfl⟩, z_HI0_e21, fun h0_ => absurd ((hoff 25 (by kernel_rfl)).symm.trans h0_) (by decide), Q_X17_, fun h0_ => absurd ((hoff 22 (by kernel_rfl)).symm.trans h0_) (by decide)⟩
      refine steps_cons ?_ ?_
      ·rintro b a w' ⟨v146, adz_v146, v153, adz_v153, m17_, m22_, ha, Q_BK129, Q_HI0, Q_HK, Q_HB, Q_HI0_e1, Q_HI0_e4, Q_HI0_e7, Q_HI0_e10, Q_HI0_e13, Q_HO147, Q_HA_HO147, Q_HI0_e16, Q_HO154, Q_HA_HO154, Q_HI0_e21, Q_BK129_e25, Q_X17_, Q_X22_⟩ hb_ hon hoff
       refine ⟨_, rfl, fun K hK => ?_⟩
       have e23 : a.tmps[23]? = some (.pointer (some ⟨g, 0, none⟩)) := by rw [ha]; exact (putSel_off rfl).trans rfl
       replace ha := Aside0.mk ha
       have BK129 := Aside0.mk (Q_BK129 (hoff 25 (by kernel_rfl)))
       have HK := Aside0.mk Q_HK
       have HB := Aside0.mk Q_HB
       have HI0 := Aside0.mk (Q_HI0_e16 (hon 16 (by kernel_rfl)) hb_)
       refine goes_ Try.func44 (by kernel_rfl) rfl #[.pointer (some ⟨g, 0, none⟩), .int .i64 6] (by rfl) rfl rfl (by first | (simp only [List.map_toArray, List.map_cons, List.map_nil, Act.eval, Array.getD_eq_getD_getElem?, Option.getD_some, e23]; done) | (simp only [List.map_toArray, List.map_cons, List.map_nil, Act.eval, Array.getD_eq_getD_getElem?, Option.getD_some, e23]; rfl)) ?_
       with_reducible refine (spec_l01Cur_pick.calls g s0_0 t149 t150 6 t155 t156 t157 w0 _ ?side1 ?side2 A10.out).mono ?_
       (case side1 => repeat (first | (with_reducible first | exact HI0.out | apply IsS122.alloc | apply IsS122.drewN | apply IsS122.drew | apply IsS122.set_1 | apply IsS122.set_2 | refine IsS122.far ?_ NB0_129.out _) | exact HI0.out))
       (case side2 => repeat (first | (with_reducible first | exact HB.out | apply below_alloc | apply pw_below_drewN | apply below_drew1 | refine below_set ?_ (IsS122.ge HI0.out) | refine below_set ?_ GE129.out) | exact HB.out))
       rintro e w22 ⟨rfl, hi, hb, hk⟩
       refine ⟨_, rfl, ?_⟩
       have n0_ := Aside0.mk (KeepBut.blk hk (g' := gb129) (o := .cells #[.int .i64 0, .int .i64 0, .int .i64 0, .int .i64 0, .slice none 0 0] 32 (0, 0)) (bk_ BK129) NB129_0.out (by simp))
       have n1_ := Aside0.mk (KeepBut.trans (by repeat (first | (with_reducible first | exact HK.out | apply KeepBut.set_ | apply keep_drewN | apply keep_drew | apply keep_alloc | refine keep_far ?_ GW129.out _) | exact HK.out)) hk (.inl rfl))
       have n2_ := Aside0.mk (hb); have n3_ := Aside0.mk (hi)
       have z_HO147 := fun (h0_ : b 14 = true) => (show Kd.R (Kd.int .i64) 3 w22 w.heap.size (fun _ => True) v146 y145 from by first | exact (Kd.R_mono (Kd.R_keep (IsS122.apart (show IsS122 w0 _ g s0_0 t149 t150 from by repeat (first | (with_reducible first | exact HI0.out | apply IsS122.alloc | apply IsS122.drewN | apply IsS122.drew | apply IsS122.set_1 | apply IsS122.set_2 | refine IsS122.far ?_ NB0_129.out _) | exact HI0.out)) (by (with_reducible repeat (first | apply Kd.R_alloc | apply Kd.R_drewN | apply Kd.R_drew)); exact (Q_HO147 h0_)) (by decide)) hk (fun _ h => h.2)) (fun _ h => h.1)) | exact Kd.R_mono (Kd.R_mono (Kd.R_keep (IsS122.apart (show IsS122 w0 _ g s0_0 t149 t150 from by repeat (first | (with_reducible first | exact HI0.out | apply IsS122.alloc | apply IsS122.drewN | apply IsS122.drew | apply IsS122.set_1 | apply IsS122.set_2 | refine IsS122.far ?_ NB0_129.out _) | exact HI0.out)) (by (with_reducible repeat (first | apply Kd.R_alloc | apply Kd.R_drewN | apply Kd.R_drew)); exact (Q_HO147 h0_)) (by decide)) hk (fun _ h => h.2)) (fun _ h => h.1)) (fun _ h_ => by first | trivial | exact h_ | exact h_.1))
       have z_HO154 := fun (h0_ : b 19 = true) => (show Kd.R (Kd.int .i64) 3 w22 w.heap.size (fun _ => True) v153 y152 from by first | exact (Kd.R_mono (Kd.R_keep (IsS122.apart (show IsS122 w0 _ g s0_0 t149 t150 from by repeat (first | (with_reducible first | exact HI0.out | apply IsS122.alloc | apply IsS122.drewN | apply IsS122.drew | apply IsS122.set_1 | apply IsS122.set_2 | refine IsS122.far ?_ NB0_129.out _) | exact HI0.out)) (by (with_reducible repeat (first | apply Kd.R_alloc | apply Kd.R_drewN | apply Kd.R_drew)); exact (Q_HO154 h0_)) (by decide)) hk (fun _ h => h.2)) (fun _ h => h.1)) | exact Kd.R_mono (Kd.R_mono (Kd.R_keep (IsS122.apart (show IsS122 w0 _ g s0_0 t149 t150 from by repeat (first | (with_reducible first | exact HI0.out | apply IsS122.alloc | apply IsS122.drewN | apply IsS122.drew | apply IsS122.set_1 | apply IsS122.set_2 | refine IsS122.far ?_ NB0_129.out _) | exact HI0.out)) (by (with_reducible repeat (first | apply Kd.R_alloc | apply Kd.R_drewN | apply Kd.R_drew)); exact (Q_HO154 h0_)) (by decide)) hk (fun _ h => h.2)) (fun _ h => h.1)) (fun _ h_ => by first | trivial | exact h_ | exact h_.1))
       clear BK129; clear HK; clear HB; clear HI0; have BK129 := n0_
       have HK := n1_
       have HB := n2_
       have HI0 := n3_
       clear n0_ n1_ n2_ n3_; (try clear hb); (try clear hb2); (try clear hk); (try clear hi)
       refine hK.out _ _ ⟨v146, adz_v146, v153, adz_v153, m17_, m22_, (by rw [ha.out]; exact putSel_upk 14 hb_ rfl rfl rfl), fun _ => (bk_ BK129), fun h0_ => absurd ((hon 1 (by kernel_rfl)).symm.trans h0_) (by decide), (by repeat (first | (with_reducible first | exact HK.out | apply KeepBut.set_ | apply keep_drewN | apply keep_drew | apply keep_alloc | refine keep_far ?_ GW129.out _) | exact HK.out)), (by repeat (first | (with_reducible first | exact HB.out | apply below_alloc | apply pw_below_drewN | apply below_drew1 | refine below_set ?_ (IsS122.ge HI0.out) | refine below_set ?_ GE129.out) | exact HB.out)), fun _ h1_ => absurd ((hon 4 (by kernel_rfl)).symm.trans h1_) (by decide), fun _ h1_ => absurd ((hon 7 (by kernel_rfl)).symm.trans h1_) (by decide), fun _ h1_ => absurd ((hon 10 (by kernel_rfl)).symm.trans h1_) (by decide), fun _ h1_ => absurd ((hon 13 (by kernel_rfl)).symm.trans h1_) (by decide), fun _ h1_ => absurd ((hon 16 (by kernel_rfl)).symm.trans h1_) (by decide), z_HO147, Q_HA_HO147, fun _ h1_ => absurd ((up_self b 21).symm.trans h1_) (by decide), z_HO154, Q_HA_HO154, fun _ => (by repeat (first | (with_reducible first | exact HI0.out | apply IsS122.alloc | apply IsS122.drewN | apply IsS122.drew | apply IsS122.set_1 | apply IsS122.set_2 | refine IsS122.far ?_ NB0_129.out _) | exact HI0.out)), fun h0_ => absurd ((hoff 25 (by kernel_rfl)).symm.trans h0_) (by decide), Q_X17_, fun h0_ => absurd ((hoff 22 (by kernel_rfl)).symm.trans h0_) (by decide)⟩
      refine steps_cons ?_ ?_
      ·rintro b a w' ⟨v146, adz_v146, v153, adz_v153, m17_, m22_, ha, Q_BK129, Q_HI0, Q_HK, Q_HB, Q_HI0_e1, Q_HI0_e4, Q_HI0_e7, Q_HI0_e10, Q_HI0_e13, Q_HO147, Q_HA_HO147, Q_HI0_e16, Q_HO154, Q_HA_HO154, Q_HI0_e21, Q_BK129_e25, Q_X17_, Q_X22_⟩ hb_ hon hoff
       refine ⟨_, rfl, fun K hK => ?_⟩
       have e22 : a.tmps[22]? = some (v153) := by rw [ha]; exact putSel_on (e := (19, 22, v153)) 13 rfl rfl (hon 19 (by kernel_rfl)) rfl
       have e24 : a.tmps[24]? = some (.int .i64 t155) := by rw [ha]; exact putSel_on (e := (21, 24, .int .i64 t155)) 14 rfl rfl (hon 21 (by kernel_rfl)) rfl
       replace ha := Aside0.mk ha
       have BK129 := Aside0.mk (Q_BK129 (hoff 25 (by kernel_rfl)))
       have HK := Aside0.mk Q_HK
       have HB := Aside0.mk Q_HB
       have HO154 := Aside0.mk (Q_HO154 (hon 19 (by kernel_rfl)))
       have HA_HO154 := Aside0.mk (Q_HA_HO154 (hon 19 (by kernel_rfl)))
       have HI0 := Aside0.mk (Q_HI0_e21 (hon 21 (by kernel_rfl)))
       obtain ⟨c_, hv_⟩ := HA_HO154.out
       rw [hv_] at e22
       refine value_ (w1 := w') (v := .pointer (some (adz_v153.add (t155).toNat))) (by rfl) rfl ?_ ?_
       ·go_simp
        (try simp only [i64_w])
        try rfl
       refine hK.out _ _ ⟨v146, adz_v146, v153, adz_v153, m17_, (.pointer (some (adz_v153.add (t155).toNat))), (by rw [ha.out]; exact putSel_upk 15 hb_ rfl rfl rfl), Q_BK129, fun h0_ => absurd ((hon 1 (by kernel_rfl)).symm.trans h0_) (by decide), Q_HK, Q_HB, fun _ h1_ => absurd ((hon 4 (by kernel_rfl)).symm.trans h1_) (by decide), fun _ h1_ => absurd ((hon 7 (by kernel_rfl)).symm.trans h1_) (by decide), fun _ h1_ => absurd ((hon 10 (by kernel_rfl)).symm.trans h1_) (by decide), fun _ h1_ => absurd ((hon 13 (by kernel_rfl)).symm.trans h1_) (by decide), fun _ h1_ => absurd ((hon 16 (by kernel_rfl)).symm.trans h1_) (by decide), Q_HO147, Q_HA_HO147, fun _ h1_ => absurd ((hon 21 (by kernel_rfl)).symm.trans h1_) (by decide), Q_HO154, Q_HA_HO154, Q_HI0_e21, fun h0_ => absurd ((hoff 25 (by kernel_rfl)).symm.trans h0_) (by decide), Q_X17_, fun _ => rfl⟩
      refine steps_cons ?_ ?_
      ·rintro b a w' ⟨v146, adz_v146, v153, adz_v153, m17_, m22_, ha, Q_BK129, Q_HI0, Q_HK, Q_HB, Q_HI0_e1, Q_HI0_e4, Q_HI0_e7, Q_HI0_e10, Q_HI0_e13, Q_HO147, Q_HA_HO147, Q_HI0_e16, Q_HO154, Q_HA_HO154, Q_HI0_e21, Q_BK129_e25, Q_X17_, Q_X22_⟩ hb_ hon hoff
       refine ⟨_, rfl, fun K hK => ?_⟩
       have e25 : a.tmps[25]? = some (m22_) := by rw [ha]; exact putSel_on (e := (22, 25, m22_)) 15 rfl rfl (hon 22 (by kernel_rfl)) rfl
       rw [Q_X22_ (hon 22 (by kernel_rfl))] at e25
       replace ha := Aside0.mk ha
       have BK129 := Aside0.mk (Q_BK129 (hoff 25 (by kernel_rfl)))
       have HK := Aside0.mk Q_HK
       have HB := Aside0.mk Q_HB
       have HO154 := Aside0.mk (Q_HO154 (hon 19 (by kernel_rfl)))
       have HA_HO154 := Aside0.mk (Q_HA_HO154 (hon 19 (by kernel_rfl)))
       have HI0 := Aside0.mk (Q_HI0_e21 (hon 21 (by kernel_rfl)))
       obtain ⟨c_, hv_⟩ := HA_HO154.out
       have hF_ := HO154.out
       rw [hv_] at hF_
       obtain ⟨ad_, ea_, hx_⟩ := Kd.at_int (Kd.R_reads' hF_).2.2 t155 (of_eq_true pi158) (of_eq_true qi158)
       cases ea_
       refine value_ (w1 := w') (v := .int .i64 (rd y152 t155)) (by rfl) rfl ?_ ?_
       ·go_simp
        (try simp only [i64_w])
        try rfl
       refine hK.out _ _ ⟨v146, adz_v146, v153, adz_v153, m17_, m22_, (by rw [ha.out]; exact putSel_upk 16 hb_ rfl rfl rfl), Q_BK129, fun h0_ => absurd ((hon 1 (by kernel_rfl)).symm.trans h0_) (by decide), Q_HK, Q_HB, fun _ h1_ => absurd ((hon 4 (by kernel_rfl)).symm.trans h1_) (by decide), fun _ h1_ => absurd ((hon 7 (by kernel_rfl)).symm.trans h1_) (by decide), fun _ h1_ => absurd ((hon 10 (by kernel_rfl)).symm.trans h1_) (by decide), fun _ h1_ => absurd ((hon 13 (by kernel_rfl)).symm.trans h1_) (by decide), fun _ h1_ => absurd ((hon 16 (by kernel_rfl)).symm.trans h1_) (by decide), Q_HO147, Q_HA_HO147, fun _ h1_ => absurd ((hon 21 (by kernel_rfl)).symm.trans h1_) (by decide), Q_HO154, Q_HA_HO154, Q_HI0_e21, fun h0_ => absurd ((hoff 25 (by kernel_rfl)).symm.trans h0_) (by decide), Q_X17_, Q_X22_⟩
      refine steps_cons ?_ ?_
      ·rintro b a w' ⟨v146, adz_v146, v153, adz_v153, m17_, m22_, ha, Q_BK129, Q_HI0, Q_HK, Q_HB, Q_HI0_e1, Q_HI0_e4, Q_HI0_e7, Q_HI0_e10, Q_HI0_e13, Q_HO147, Q_HA_HO147, Q_HI0_e16, Q_HO154, Q_HA_HO154, Q_HI0_e21, Q_BK129_e25, Q_X17_, Q_X22_⟩ hb_ hon hoff
       refine ⟨_, rfl, fun K hK => ?_⟩
       have e8 : a.tmps[8]? = some (.int .i64 (wrap64 ((wrap64 (t130 * 7919)) + t133))) := by rw [ha]; exact putSel_on (e := (5, 8, .int .i64 (wrap64 ((wrap64 (t130 * 7919)) + t133)))) 3 rfl rfl (hon 5 (by kernel_rfl)) rfl
       have e14 : a.tmps[14]? = some (.int .i64 (wrap64 ((wrap64 (t136 * 16777215)) + t139))) := by rw [ha]; exact putSel_on (e := (11, 14, .int .i64 (wrap64 ((wrap64 (t136 * 16777215)) + t139)))) 7 rfl rfl (hon 11 (by kernel_rfl)) rfl
       have e21 : a.tmps[21]? = some (.int .i64 (rd y145 t148)) := by rw [ha]; exact putSel_on (e := (18, 21, .int .i64 (rd y145 t148))) 12 rfl rfl (hon 18 (by kernel_rfl)) rfl
       have e26 : a.tmps[26]? = some (.int .i64 (rd y152 t155)) := by rw [ha]; exact putSel_on (e := (23, 26, .int .i64 (rd y152 t155))) 16 rfl rfl (hon 23 (by kernel_rfl)) rfl
       replace ha := Aside0.mk ha
       have BK129 := Aside0.mk (Q_BK129 (hoff 25 (by kernel_rfl)))
       have HK := Aside0.mk Q_HK
       have HB := Aside0.mk Q_HB
       have HO147 := Aside0.mk (Q_HO147 (hon 14 (by kernel_rfl)))
       have HA_HO147 := Aside0.mk (Q_HA_HO147 (hon 14 (by kernel_rfl)))
       have HO154 := Aside0.mk (Q_HO154 (hon 19 (by kernel_rfl)))
       have HA_HO154 := Aside0.mk (Q_HA_HO154 (hon 19 (by kernel_rfl)))
       have HI0 := Aside0.mk (Q_HI0_e21 (hon 21 (by kernel_rfl)))
       refine value_ (w1 := w') (v := .agg #[.int .i64 (wrap64 ((wrap64 (t130 * 7919)) + t133)), .int .i64 (wrap64 ((wrap64 (t136 * 16777215)) + t139)), .int .i64 (rd y145 t148), .int .i64 (rd y152 t155), .slice none 0 0]) (by rfl) rfl ?_ ?_
       ·go_simp
        (try simp only [i64_w])
        try rfl
       refine hK.out _ _ ⟨v146, adz_v146, v153, adz_v153, m17_, m22_, (by rw [ha.out]; exact putSel_upk 17 hb_ rfl rfl rfl), Q_BK129, fun h0_ => absurd ((hon 1 (by kernel_rfl)).symm.trans h0_) (by decide), Q_HK, Q_HB, fun _ h1_ => absurd ((hon 4 (by kernel_rfl)).symm.trans h1_) (by decide), fun _ h1_ => absurd ((hon 7 (by kernel_rfl)).symm.trans h1_) (by decide), fun _ h1_ => absurd ((hon 10 (by kernel_rfl)).symm.trans h1_) (by decide), fun _ h1_ => absurd ((hon 13 (by kernel_rfl)).symm.trans h1_) (by decide), fun _ h1_ => absurd ((hon 16 (by kernel_rfl)).symm.trans h1_) (by decide), Q_HO147, Q_HA_HO147, fun _ h1_ => absurd ((hon 21 (by kernel_rfl)).symm.trans h1_) (by decide), Q_HO154, Q_HA_HO154, Q_HI0_e21, fun h0_ => absurd ((hoff 25 (by kernel_rfl)).symm.trans h0_) (by decide), Q_X17_, Q_X22_⟩
      refine steps_cons ?_ ?_
      ·rintro b a w' ⟨v146, adz_v146, v153, adz_v153, m17_, m22_, ha, Q_BK129, Q_HI0, Q_HK, Q_HB, Q_HI0_e1, Q_HI0_e4, Q_HI0_e7, Q_HI0_e10, Q_HI0_e13, Q_HO147, Q_HA_HO147, Q_HI0_e16, Q_HO154, Q_HA_HO154, Q_HI0_e21, Q_BK129_e25, Q_X17_, Q_X22_⟩ hb_ hon hoff
       refine ⟨_, rfl, fun K hK => ?_⟩
       have e2 : a.tmps[2]? = some (.pointer (some ⟨gb129, 0, none⟩)) := by rw [ha]; exact (putSel_off rfl).trans rfl
       have e27 : a.tmps[27]? = some (.agg #[.int .i64 (wrap64 ((wrap64 (t130 * 7919)) + t133)), .int .i64 (wrap64 ((wrap64 (t136 * 16777215)) + t139)), .int .i64 (rd y145 t148), .int .i64 (rd y152 t155), .slice none 0 0]) := by rw [ha]; exact putSel_on (e := (24, 27, .agg #[.int .i64 (wrap64 ((wrap64 (t130 * 7919)) + t133)), .int .i64 (wrap64 ((wrap64 (t136 * 16777215)) + t139)), .int .i64 (rd y145 t148), .int .i64 (rd y152 t155), .slice none 0 0])) 17 rfl rfl (hon 24 (by kernel_rfl)) rfl
       replace ha := Aside0.mk ha
       have BK129 := Aside0.mk (Q_BK129 hb_)
       have HK := Aside0.mk Q_HK
       have HB := Aside0.mk Q_HB
       have HO147 := Aside0.mk (Q_HO147 (hon 14 (by kernel_rfl)))
       have HA_HO147 := Aside0.mk (Q_HA_HO147 (hon 14 (by kernel_rfl)))
       have HO154 := Aside0.mk (Q_HO154 (hon 19 (by kernel_rfl)))
       have HA_HO154 := Aside0.mk (Q_HA_HO154 (hon 19 (by kernel_rfl)))
       have HI0 := Aside0.mk (Q_HI0_e21 (hon 21 (by kernel_rfl)))
       obtain ⟨co29, eo29⟩ := HA_HO147.out
       clear HA_HO147
       subst eo29
       obtain ⟨co30, eo30⟩ := HA_HO154.out
       clear HA_HO154
       subst eo30
       have hs31 : w'.cell? ⟨gb129, 0, none⟩ = some (.int .i64 0) := (blk_cell BK129.out 0).trans rfl
       have hfs31 := blk_frozen BK129.out 0
       have hs32 : w'.cell? ⟨gb129, 1, none⟩ = some (.int .i64 0) := (blk_cell BK129.out 1).trans rfl
       have hfs32 := blk_frozen BK129.out 1
       have hs33 : w'.cell? ⟨gb129, 2, none⟩ = some (.int .i64 0) := (blk_cell BK129.out 2).trans rfl
       have hfs33 := blk_frozen BK129.out 2
       have hs34 : w'.cell? ⟨gb129, 3, none⟩ = some (.int .i64 0) := (blk_cell BK129.out 3).trans rfl
       have hfs34 := blk_frozen BK129.out 3
       have hs35 : w'.cell? ⟨gb129, 4, none⟩ = some (.slice none 0 0) := (blk_cell BK129.out 4).trans rfl
       have hfs35 := blk_frozen BK129.out 4
       refine skip_ (w1 := ?_) (by rfl) rfl ?_ ?_
       rotate_left
       ·go_simp
        rfl
       refine hK.out _ _ ⟨.slice (some adz_v146) y145.length co29, adz_v146, .slice (some adz_v153) y152.length co30, adz_v153, m17_, m22_, (by rw [ha.out]; exact putSel_none (v := undef) rfl), fun h0_ => absurd ((up_self b 25).symm.trans h0_) (by decide), fun h0_ => absurd ((hon 1 (by kernel_rfl)).symm.trans h0_) (by decide), (by repeat (first | (with_reducible first | exact HK.out | apply KeepBut.set_ | apply keep_drewN | apply keep_drew | apply keep_alloc | refine keep_far ?_ GW129.out _) | exact HK.out)), (by repeat (first | (with_reducible first | exact HB.out | apply below_alloc | apply pw_below_drewN | apply below_drew1 | refine below_set ?_ (IsS122.ge HI0.out) | refine below_set ?_ GE129.out) | exact HB.out)), fun _ h1_ => absurd ((hon 4 (by kernel_rfl)).symm.trans h1_) (by decide), fun _ h1_ => absurd ((hon 7 (by kernel_rfl)).symm.trans h1_) (by decide), fun _ h1_ => absurd ((hon 10 (by kernel_rfl)).symm.trans h1_) (by decide), fun _ h1_ => absurd ((hon 13 (by kernel_rfl)).symm.trans h1_) (by decide), fun _ h1_ => absurd ((hon 16 (by kernel_rfl)).symm.trans h1_) (by decide), fun _ => (by (with_reducible repeat (first | apply Kd.R_alloc | apply Kd.R_drewN | apply Kd.R_drew)); exact Kd.R_mono (Kd.R_far (p := ⟨gb129, 4, none⟩) (Kd.R_far (p := ⟨gb129, 3, none⟩) (Kd.R_far (p := ⟨gb129, 2, none⟩) (Kd.R_far (p := ⟨gb129, 1, none⟩) (Kd.R_far (p := ⟨gb129, 0, none⟩) (Kd.R_types HO147.out BK129.out (by decide)) (fun _ hk => by first | exact hk.2 | grind) (.int .i64 (wrap64 ((wrap64 (t130 * 7919)) + t133)))) (fun _ hk => by first | exact hk.2 | grind) (.int .i64 (wrap64 ((wrap64 (t136 * 16777215)) + t139)))) (fun _ hk => by first | exact hk.2 | grind) (.int .i64 (rd y145 t148))) (fun _ hk => by first | exact hk.2 | grind) (.int .i64 (rd y152 t155))) (fun _ hk => by first | exact hk.2 | grind) (.slice none 0 0)) (fun _ hk => by first | exact hk.1 | grind)), fun _ => ⟨_, rfl⟩, fun _ h1_ => absurd ((hon 21 (by kernel_rfl)).symm.trans h1_) (by decide), fun _ => (by (with_reducible repeat (first | apply Kd.R_alloc | apply Kd.R_drewN | apply Kd.R_drew)); exact Kd.R_mono (Kd.R_far (p := ⟨gb129, 4, none⟩) (Kd.R_far (p := ⟨gb129, 3, none⟩) (Kd.R_far (p := ⟨gb129, 2, none⟩) (Kd.R_far (p := ⟨gb129, 1, none⟩) (Kd.R_far (p := ⟨gb129, 0, none⟩) (Kd.R_types HO154.out BK129.out (by decide)) (fun _ hk => by first | exact hk.2 | grind) (.int .i64 (wrap64 ((wrap64 (t130 * 7919)) + t133)))) (fun _ hk => by first | exact hk.2 | grind) (.int .i64 (wrap64 ((wrap64 (t136 * 16777215)) + t139)))) (fun _ hk => by first | exact hk.2 | grind) (.int .i64 (rd y145 t148))) (fun _ hk => by first | exact hk.2 | grind) (.int .i64 (rd y152 t155))) (fun _ hk => by first | exact hk.2 | grind) (.slice none 0 0)) (fun _ hk => by first | exact hk.1 | grind)), fun _ => ⟨_, rfl⟩, fun _ => (by repeat (first | (with_reducible first | exact HI0.out | apply IsS122.alloc | apply IsS122.drewN | apply IsS122.drew | apply IsS122.set_1 | apply IsS122.set_2 | refine IsS122.far ?_ NB0_129.out _) | exact HI0.out)), fun _ => (by (with_reducible repeat (first | refine blk_drewN ?_ _ | refine blk_drew ?_ | refine blk_alloc ?_ _)); refine blk_put (cs := #[.int .i64 (wrap64 ((wrap64 (t130 * 7919)) + t133)), .int .i64 (wrap64 ((wrap64 (t136 * 16777215)) + t139)), .int .i64 (rd y145 t148), .int .i64 (rd y152 t155), .slice none 0 0]) ?_ 4 _ rfl; (with_reducible repeat (first | refine blk_drewN ?_ _ | refine blk_drew ?_ | refine blk_alloc ?_ _)); refine blk_put (cs := #[.int .i64 (wrap64 ((wrap64 (t130 * 7919)) + t133)), .int .i64 (wrap64 ((wrap64 (t136 * 16777215)) + t139)), .int .i64 (rd y145 t148), .int .i64 0, .slice none 0 0]) ?_ 3 _ rfl; (with_reducible repeat (first | refine blk_drewN ?_ _ | refine blk_drew ?_ | refine blk_alloc ?_ _)); refine blk_put (cs := #[.int .i64 (wrap64 ((wrap64 (t130 * 7919)) + t133)), .int .i64 (wrap64 ((wrap64 (t136 * 16777215)) + t139)), .int .i64 0, .int .i64 0, .slice none 0 0]) ?_ 2 _ rfl; (with_reducible repeat (first | refine blk_drewN ?_ _ | refine blk_drew ?_ | refine blk_alloc ?_ _)); refine blk_put (cs := #[.int .i64 (wrap64 ((wrap64 (t130 * 7919)) + t133)), .int .i64 0, .int .i64 0, .int .i64 0, .slice none 0 0]) ?_ 1 _ rfl; (with_reducible repeat (first | refine blk_drewN ?_ _ | refine blk_drew ?_ | refine blk_alloc ?_ _)); refine blk_put (cs := #[.int .i64 0, .int .i64 0, .int .i64 0, .int .i64 0, .slice none 0 0]) ?_ 0 _ rfl; exact bk_ BK129), Q_X17_, Q_X22_⟩
      exact steps_nil
     rintro b a w33 hall ⟨v146, adz_v146, v153, adz_v153, m17_, m22_, ha, Q_BK129, Q_HI0, Q_HK, Q_HB, Q_HI0_e1, Q_HI0_e4, Q_HI0_e7, Q_HI0_e10, Q_HI0_e13, Q_HO147, Q_HA_HO147, Q_HI0_e16, Q_HO154, Q_HA_HO154, Q_HI0_e21, Q_BK129_e25, Q_X17_, Q_X22_⟩
     clear BK129 HB HI0 HK
     have hb1_ := hall 1 (by kernel_rfl)
     have hb2_ := hall 2 (by kernel_rfl)
     have hb4_ := hall 4 (by kernel_rfl)
     have hb5_ := hall 5 (by kernel_rfl)
     have hb7_ := hall 7 (by kernel_rfl)
     have hb8_ := hall 8 (by kernel_rfl)
     have hb10_ := hall 10 (by kernel_rfl)
     have hb11_ := hall 11 (by kernel_rfl)
     have hb13_ := hall 13 (by kernel_rfl)
     have hb14_ := hall 14 (by kernel_rfl)
     have hb16_ := hall 16 (by kernel_rfl)
     have hb17_ := hall 17 (by kernel_rfl)
     have hb18_ := hall 18 (by kernel_rfl)
     have hb19_ := hall 19 (by kernel_rfl)
     have hb21_ := hall 21 (by kernel_rfl)
     have hb22_ := hall 22 (by kernel_rfl)
     have hb23_ := hall 23 (by kernel_rfl)
     have hb24_ := hall 24 (by kernel_rfl)
     have hb25_ := hall 25 (by kernel_rfl)
     subst ha
     obtain rfl := Q_X17_ hb17_
     obtain rfl := Q_X22_ hb22_
     simp only [putSel, hb1_, hb2_, hb4_, hb5_, hb7_, hb8_, hb10_, hb11_, hb13_, hb14_, hb16_, hb17_, hb18_, hb19_, hb21_, hb22_, hb23_, hb24_, hb25_, if_true, Act.put, List.setIfInBounds_toArray, List.set_cons_zero, List.set_cons_succ]
     clear Q_BK129; clear Q_HI0
     have HK := Aside0.mk Q_HK
     clear Q_HK; have HB := Aside0.mk Q_HB; clear Q_HB; clear Q_HI0_e1; clear Q_HI0_e4; clear Q_HI0_e7; clear Q_HI0_e10; clear Q_HI0_e13; have HO147 := Aside0.mk (Q_HO147 hb14_); clear Q_HO147
     have HA_HO147 := Aside0.mk (Q_HA_HO147 hb14_)
     clear Q_HA_HO147; clear Q_HI0_e16; have HO154 := Aside0.mk (Q_HO154 hb19_); clear Q_HO154
     have HA_HO154 := Aside0.mk (Q_HA_HO154 hb19_)
     clear Q_HA_HO154
     have HI0 := Aside0.mk (Q_HI0_e21 hb21_)
     clear Q_HI0_e21; have BK129 := Aside0.mk (Q_BK129_e25 hb25_); clear Q_BK129_e25; clear hall hb1_ hb2_ hb4_ hb5_ hb7_ hb8_ hb10_ hb11_ hb13_ hb14_ hb16_ hb17_ hb18_ hb19_ hb21_ hb22_ hb23_ hb24_ hb25_
     obtain ⟨co34, eo34⟩ := HA_HO147.out
     clear HA_HO147
     subst eo34
     obtain ⟨co35, eo35⟩ := HA_HO154.out
     clear HA_HO154
     subst eo35
     try go_wp2
     refine bodyPost_ret (results_cell_row rfl _ _ gb129 32 #[.int .i64 (wrap64 ((wrap64 (t130 * 7919)) + t133)), .int .i64 (wrap64 ((wrap64 (t136 * 16777215)) + t139)), .int .i64 (rd y145 t148), .int .i64 (rd y152 t155), .slice none 0 0] (0, 0) _ rfl (bk_ BK129) Try.underlying32 rfl (by kernel_rfl)) rfl ?_
     exact ⟨_, by first | rfl | (simp [errW_none, errW_some] <;> rfl) | (simp [*, errW_none, errW_some] <;> rfl), by first | exact Kd.R_nil _ _ _ _ _ | exact Kd.N_nil _ _ _ _ _ | exact Kd.V_nil _ _ _ _ _ | exact Kd.Q_nil _ _ _ _ _ | exact Kd.S_nil _ _ _ _ _, by repeat (first | (with_reducible first | exact HI0.out | apply IsS122.alloc | apply IsS122.drewN | apply IsS122.drew | apply IsS122.set_1 | apply IsS122.set_2 | refine IsS122.far ?_ NB0_129.out _) | exact HI0.out), by repeat (first | (with_reducible first | exact HB.out | apply below_alloc | apply pw_below_drewN | apply below_drew1 | refine below_set ?_ (IsS122.ge HI0.out) | refine below_set ?_ GE129.out) | exact HB.out), by repeat (first | (with_reducible first | exact HK.out | apply KeepBut.set_ | apply keep_drewN | apply keep_drew | apply keep_alloc | refine keep_far ?_ GW129.out _) | exact HK.out)⟩
    ·rw [if_neg c12] at H
     exact absurd H (by simp)
   ·rw [if_neg c11] at H
    exact absurd H (by simp)
  ·rw [if_neg c9] at H
   exact absurd H (by simp)
 ·rw [if_neg c8] at H
  exact absurd H (by simp)

/-! ### spec_l01Cur_size: function 134 -/
def spec_l01Cur_size.f (s0_0 : List Int) (s0_1 : Int) (s0_2 : Int) (a1 : Int) : Option (Int × Int × Int) := (spec_l01Cur_pick.f s0_0 s0_1 s0_2 (wrap64 ((mn a1 (wrap64 (1 + (wrap64 ((s0_0.length : Int) / 8))))) + 1))).bind fun bt159 => (some (bt159.1, bt159.2.1, bt159.2.2))
set_option maxHeartbeats 8000000 in
set_option maxRecDepth 100000 in
theorem spec_l01Cur_size.calls (g : Nat) (s0_0 : List Int) (s0_1 : Int) (s0_2 : Int) (a1 : Int) (r1 : Int) (r2 : Int) (r3 : Int) (w0 w : World) (hI : IsS122 w0 w g s0_0 s0_1 s0_2) (hB : Below w0.heap.size w0 w) (h : spec_l01Cur_size.f s0_0 s0_1 s0_2 a1 = some (r1, r2, r3)) :
  Calls Try.prog 134 #[.pointer (some ⟨g, 0, none⟩), .int .i64 a1] w fun e w' => e = .returned (.int .i64 r1) ∧ IsS122 w0 w' g s0_0 r2 r3 ∧ Below w0.heap.size w0 w' ∧ KeepBut w w' g none := by
 have HI0 := Aside0.mk hI
 have HK := Aside0.mk (KeepBut.refl w g none)
 have HL := Aside0.mk hB.size
 clear hI
 have HW0 := Aside0.mk hB.size
 have HB := Aside0.mk hB; clear hB
 have H : ((spec_l01Cur_pick.f s0_0 s0_1 s0_2 (wrap64 ((mn a1 (wrap64 (1 + (wrap64 ((s0_0.length : Int) / 8))))) + 1))).bind fun bt159 => (some (bt159.1, bt159.2.1, bt159.2.2))) = some (r1, r2, r3) := h
 clear h
 obtain ⟨ji3, hji3⟩ : ∃ j_ : Int, (mn a1 (wrap64 (1 + (wrap64 ((s0_0.length : Int) / 8))))) = j_ := ⟨_, rfl⟩
 replace H : ((spec_l01Cur_pick.f s0_0 s0_1 s0_2 (wrap64 ((ji3) + 1))).bind fun bt159 => (some (bt159.1, bt159.2.1, bt159.2.2))) = some (r1, r2, r3) := by first | (rw [hji3] at H; exact H) | (simp only [hji3] at H ⊢; exact H)
 have hji3_ : (if (wrap64 (1 + (wrap64 ((s0_0.length : Int) / 8)))) < a1 then (wrap64 (1 + (wrap64 ((s0_0.length : Int) / 8)))) else a1) = ji3 := hji3
 replace H := Option.bind_eq_some_iff.mp H
 obtain ⟨⟨t159, t160, t161⟩, A40, H⟩ := H
 replace H : (some (t159, t160, t161)) = some (r1, r2, r3) := H
 have A4 := Aside0.mk A40
 clear A40
 simp only [Option.some.injEq, Prod.mk.injEq] at H
 obtain ⟨rfl, rfl, rfl⟩ := H
 obtain ⟨ASz5_0, cSz5_0, HGz5, hgz5, HSz5_0⟩ := HI0.out
 have hcz5_0 := cellS122_0 HGz5; have hcz5_1 := cellS122_1 HGz5; have hcz5_2 := cellS122_2 HGz5; have hfz5_1 := blk_frozen HGz5 1; have hfz5_2 := blk_frozen HGz5 2; clear HGz5 hgz5
 go_enter Try.func134, Try.ntmps134
 go_wp2_with (first | ((with_reducible refine gate_callee (f := 44) rfl ?_); refine goesL_ (some 16) rfl rfl Try.func44 (by kernel_rfl) rfl #[.pointer (some ⟨g, 0, none⟩), .int .i64 (wrap64 ((ji3) + 1))] rfl (by (try simp only [List.map_toArray, List.map_cons, List.map_nil]); first | done | (simp only [hji3]; rfl) | rfl | (simp only [List.length_drop, List.length_take]; rfl)) ?_; (with_reducible refine (spec_l01Cur_pick.calls g s0_0 s0_1 s0_2 (wrap64 ((ji3) + 1)) t159 t160 t161 w0 _ ?side1 ?side2 A4.out).mono ?_); (case side1 => repeat (first | (with_reducible first | exact HI0.out | apply IsS122.alloc | apply IsS122.drewN | apply IsS122.drew | apply IsS122.set_1 | apply IsS122.set_2) | exact HI0.out)); (case side2 => repeat (first | (with_reducible first | exact HB.out | apply below_alloc | apply pw_below_drewN | apply below_drew1 | refine below_set ?_ (IsS122.ge HI0.out)) | exact HB.out)); rintro e w6 ⟨rfl, hi, hb, hk⟩; refine ⟨_, rfl, ?_⟩; have n0_ := Aside0.mk (KeepBut.trans (by repeat (first | (with_reducible first | exact HK.out | apply KeepBut.set_ | apply keep_drewN | apply keep_drew | apply keep_alloc) | exact HK.out)) hk (.inl rfl)); have n1_ := Aside0.mk (hb); have n2_ := Aside0.mk (hi); clear HK; clear HB; clear HI0; have HK := n0_; have HB := n1_; have HI0 := n2_; clear n0_ n1_ n2_; (try clear hb); (try clear hb2); (try clear hk); (try clear hi)))
 go_ret
 exact ⟨by first | rfl | (simp [errW_none, errW_some] <;> rfl) | (simp only [← hji3]; first | rfl | (simp [errW_none, errW_some] <;> rfl)) | (simp [*, errW_none, errW_some] <;> rfl), by repeat (first | (with_reducible first | exact HI0.out | apply IsS122.alloc | apply IsS122.drewN | apply IsS122.drew | apply IsS122.set_1 | apply IsS122.set_2) | exact HI0.out), by repeat (first | (with_reducible first | exact HB.out | apply below_alloc | apply pw_below_drewN | apply below_drew1 | refine below_set ?_ (IsS122.ge HI0.out)) | exact HB.out), by repeat (first | (with_reducible first | exact HK.out | apply KeepBut.set_ | apply keep_drewN | apply keep_drew | apply keep_alloc) | exact HK.out)⟩

/-! ### spec_l01Cur_bytes: function 113 -/
def spec_l01Cur_bytes.l0 : Nat → List Int → Int → List Int → Int → Int → Option (List Int × Int × Int)
  | 0, _, _, _, _, _ => none
  | k + 1, x5, x6, x1000, x1001, x1002 => if x6 > 0 then ((spec_l01Cur_pick.f x1000 x1001 x1002 256).bind fun bt168 => (if x5.length < 140737488355328 then (spec_l01Cur_bytes.l0 k (x5 ++ [(bt168.1) % 256]) (wrap64 (x6 - 1)) x1000 bt168.2.1 bt168.2.2) else (none))) else (some (x5, x1001, x1002))
def spec_l01Cur_bytes.f (k : Nat) (s0_0 : List Int) (s0_1 : Int) (s0_2 : Int) (a1 : Int) : Option (List Int × Int × Int) := (spec_l01Cur_size.f s0_0 s0_1 s0_2 a1).bind fun bt165 => (spec_l01Cur_bytes.l0 k (([] : List Int)) bt165.1 s0_0 bt165.2.1 bt165.2.2)
theorem spec_l01Cur_bytes.mono_l : ∀ k, (∀ y0 y1 y2 y3 y4, LeO (spec_l01Cur_bytes.l0 k y0 y1 y2 y3 y4) (spec_l01Cur_bytes.l0 (k + 1) y0 y1 y2 y3 y4))
 | 0 => fun _ _ _ _ _ r h => by simp [spec_l01Cur_bytes.l0] at h
 | k + 1 => by
  have ih0 := spec_l01Cur_bytes.mono_l k
  ·intro y0 y1 y2 y3 y4
   unfold spec_l01Cur_bytes.l0
   repeat' first
   | (with_reducible exact ih0 _ _ _ _ _)
   | (with_reducible exact LeO.refl _)
   | (with_reducible exact LeO.none _)
   | (with_reducible refine LeO.ite ?_ ?_)
   | (with_reducible refine LeO.bind ?_ (fun _ => ?_))
   | exact ih0 _ _ _ _ _
   | exact LeO.none _
   | refine LeO.ite ?_ ?_
   | refine LeO.bind ?_ (fun _ => ?_)
theorem spec_l01Cur_bytes.mono : ∀ a0 a1 a2 a3 k, LeO (spec_l01Cur_bytes.f k a0 a1 a2 a3) (spec_l01Cur_bytes.f (k + 1) a0 a1 a2 a3) := by
 intro a0 a1 a2 a3 k
 have ih0 := spec_l01Cur_bytes.mono_l k
 unfold spec_l01Cur_bytes.f
 repeat' first
   | (with_reducible exact ih0 _ _ _ _ _)
   | (with_reducible exact LeO.refl _)
   | (with_reducible exact LeO.none _)
   | (with_reducible refine LeO.ite ?_ ?_)
   | (with_reducible refine LeO.bind ?_ (fun _ => ?_))
   | exact ih0 _ _ _ _ _
   | exact LeO.none _
   | refine LeO.ite ?_ ?_
   | refine LeO.bind ?_ (fun _ => ?_)
set_option maxHeartbeats 8000000 in
set_option maxRecDepth 100000 in
theorem spec_l01Cur_bytes.calls (k : Nat) (g : Nat) (s0_0 : List Int) (s0_1 : Int) (s0_2 : Int) (a1 : Int) (r1 : List Int) (r2 : Int) (r3 : Int) (w0 w : World) (hI : IsS122 w0 w g s0_0 s0_1 s0_2) (hB : Below w0.heap.size w0 w) (h : spec_l01Cur_bytes.f k s0_0 s0_1 s0_2 a1 = some (r1, r2, r3)) :
  Calls Try.prog 113 #[.pointer (some ⟨g, 0, none⟩), .int .i64 a1] w fun e w' => ∃ v0_ : Value, e = .returned (v0_) ∧ Kd.R (Kd.int .u8) 5 w' w.heap.size (fun _ => True) v0_ r1 ∧ IsS122 w0 w' g s0_0 r2 r3 ∧ Below w0.heap.size w0 w' ∧ KeepBut w w' g none := by
 have HI0 := Aside0.mk hI
 have HK := Aside0.mk (KeepBut.refl w g none)
 have HL := Aside0.mk hB.size
 clear hI
 have HW0 := Aside0.mk hB.size
 have HB := Aside0.mk hB; clear hB
 have H : ((spec_l01Cur_size.f s0_0 s0_1 s0_2 a1).bind fun bt165 => (spec_l01Cur_bytes.l0 k (([] : List Int)) bt165.1 s0_0 bt165.2.1 bt165.2.2)) = some (r1, r2, r3) := h
 clear h
 obtain ⟨y162, hy162⟩ : ∃ y_ : List Int, y_ = (([] : List Int)) := ⟨_, rfl⟩
 replace H : ((spec_l01Cur_size.f s0_0 s0_1 s0_2 a1).bind fun bt165 => (spec_l01Cur_bytes.l0 k y162 bt165.1 s0_0 bt165.2.1 bt165.2.2)) = some (r1, r2, r3) := by first | (rw [hy162]; with_reducible exact H) | (have H2_ := (Option.bind_some _ _).symm.trans H; rw [hy162]; with_reducible exact H2_) | (have H2_ := (Option.bind_some _ _).symm.trans H; with_reducible exact H2_) | with_reducible exact H | (rw [hy162]; exact H) | exact H
 have Ny162 := Aside0.mk hy162
 clear hy162
 replace H := Option.bind_eq_some_iff.mp H
 obtain ⟨⟨t165, t166, t167⟩, A30, H⟩ := H
 replace H : (spec_l01Cur_bytes.l0 k y162 t165 s0_0 t166 t167) = some (r1, r2, r3) := H
 have A3 := Aside0.mk A30
 clear A30
 have H' := Aside0.mk H
 clear H
 go_enter Try.func113, Try.ntmps113
 go_wp2_with (first | ((with_reducible refine gate_dst (N := 7) rfl ?_); refine Kd.R_lit (Kd.int .u8) _ 5 ?hg (N := 7) ?hd (xs := ([] : List Int)) (inner := []) (ok := fun _ => True) (okp := fun _ => True) ?hr ?hp (fun _ hk => by first | exact hk | grind) trivial (Below.refl _ _) (Nat.le_refl _) (by simp) ?_; (case hd => rfl); (case hg => rfl); (case hr => first | (go_simp; done) | (go_simp; rfl)); (case hp => exact (Reps.none _ _)); intro v163 w4 ho5 hb hg_ hnew_; clear hg_ hnew_; (first | rw [← Ny162.out] at ho5 | (simp only [Int.reduceToNat] at ho5; rw [← Ny162.out] at ho5)); have n0_ := Aside0.mk (Kd.R_lower ho5 (keep_size (w := w) (g := g) (row := none) (by repeat (first | (with_reducible first | exact HK.out | apply KeepBut.set_ | apply keep_drewN | apply keep_drew | apply keep_alloc) | exact HK.out)))); have n1_ := Aside0.mk (IsS122.below (by repeat (first | (with_reducible first | exact HI0.out | apply IsS122.alloc | apply IsS122.drewN | apply IsS122.drew | apply IsS122.set_1 | apply IsS122.set_2) | exact HI0.out)) hb); have n2_ := Aside0.mk (KeepBut.trans (by repeat (first | (with_reducible first | exact HK.out | apply KeepBut.set_ | apply keep_drewN | apply keep_drew | apply keep_alloc) | exact HK.out)) (KeepBut.of_below hb g none) (.inl rfl)); have n3_ := Aside0.mk (below_step (by repeat (first | (with_reducible first | exact HB.out | apply below_alloc | apply pw_below_drewN | apply below_drew1 | refine below_set ?_ (IsS122.ge HI0.out)) | exact HB.out)) hb); clear HI0; clear HK; clear HB; have HO164 := n0_; have HI0 := n1_; have HK := n2_; have HB := n3_; clear n0_ n1_ n2_ n3_; clear hb ho5) | ((with_reducible refine gate_callee (f := 134) rfl ?_); refine goesL_ (some 10) rfl rfl Try.func134 (by kernel_rfl) rfl #[.pointer (some ⟨g, 0, none⟩), .int .i64 a1] rfl mt_ ?_; (with_reducible refine (spec_l01Cur_size.calls g s0_0 s0_1 s0_2 a1 t165 t166 t167 w0 _ ?side1 ?side2 A3.out).mono ?_); (case side1 => repeat (first | (with_reducible first | exact HI0.out | apply IsS122.alloc | apply IsS122.drewN | apply IsS122.drew | apply IsS122.set_1 | apply IsS122.set_2) | exact HI0.out)); (case side2 => repeat (first | (with_reducible first | exact HB.out | apply below_alloc | apply pw_below_drewN | apply below_drew1 | refine below_set ?_ (IsS122.ge HI0.out)) | exact HB.out)); rintro e w6 ⟨rfl, hi, hb, hk⟩; refine ⟨_, rfl, ?_⟩; have n0_ := Aside0.mk (Kd.R_mono (Kd.R_keep (IsS122.apart (show IsS122 w0 _ g s0_0 s0_1 s0_2 from by repeat (first | (with_reducible first | exact HI0.out | apply IsS122.alloc | apply IsS122.drewN | apply IsS122.drew | apply IsS122.set_1 | apply IsS122.set_2) | exact HI0.out)) (kr_ HO164) (by decide)) hk (fun _ h => h.2)) (fun _ h => h.1)); have n1_ := Aside0.mk (KeepBut.trans (by repeat (first | (with_reducible first | exact HK.out | apply KeepBut.set_ | apply keep_drewN | apply keep_drew | apply keep_alloc) | exact HK.out)) hk (.inl rfl)); have n2_ := Aside0.mk (hb); have n3_ := Aside0.mk (hi); clear HO164; clear HK; clear HB; clear HI0; have HO164 := n0_; have HK := n1_; have HB := n2_; have HI0 := n3_; clear n0_ n1_ n2_ n3_; (try clear hb); (try clear hb2); (try clear hk); (try clear hi)))
 go_loopg [5, 6] k (fun kq v5 v6 w' => ∃ (x5_1 : List Int) (x6_1 : Int) (x1001_1 : Int) (x1002_1 : Int), v6 = .int .i64 x6_1 ∧ Aside0 (spec_l01Cur_bytes.l0 kq x5_1 x6_1 s0_0 x1001_1 x1002_1 = some (r1, r2, r3)) ∧ Aside0 (kq ≤ k) ∧ Aside0 (Kd.R (Kd.int .u8) 5 w' w.heap.size (fun _ => True) v5 x5_1) ∧ Aside0 (IsS122 w0 w' g s0_0 x1001_1 x1002_1) ∧ Aside0 (KeepBut w w' g none) ∧ Aside0 (Below w0.heap.size w0 w'))
 case atStart => exact ⟨(y162), (t165), (t166), (t167), (by first | rfl | (simp; done) | (simp [*]; done)), H', ⟨Nat.le_refl _⟩, ⟨kr_ HO164⟩, ⟨by repeat (first | (with_reducible first | exact HI0.out | apply IsS122.alloc | apply IsS122.drewN | apply IsS122.drew | apply IsS122.set_1 | apply IsS122.set_2) | exact HI0.out)⟩, ⟨by repeat (first | (with_reducible first | exact HK.out | apply KeepBut.set_ | apply keep_drewN | apply keep_drew | apply keep_alloc) | exact HK.out)⟩, ⟨by repeat (first | (with_reducible first | exact HB.out | apply below_alloc | apply pw_below_drewN | apply below_drew1 | refine below_set ?_ (IsS122.ge HI0.out)) | exact HB.out)⟩⟩
 case round =>
  clear H'
  (try clear c1); (try clear p2)
  obtain ⟨x5_1, x6_1, x1001_1, x1002_1, rfl, HA, HK1, HO_5, HI0, HK, HB⟩ := hrel
  cases gk with
  | zero => exact absurd HA.out (by simp [spec_l01Cur_bytes.l0])
  | succ k1 =>
   have H := HA.out
   clear HA
   simp only [spec_l01Cur_bytes.l0] at H
   by_cases c7 : x6_1 > 0
   ·rw [if_pos c7] at H
    have c7b0 : decide (0 < x6_1) = true := decide_eq_true c7
    clear c7
    replace H := Option.bind_eq_some_iff.mp H
    obtain ⟨⟨t168, t169, t170⟩, A80, H⟩ := H
    replace H : (if x5_1.length < 140737488355328 then (spec_l01Cur_bytes.l0 k1 (x5_1 ++ [(t168) % 256]) (wrap64 (x6_1 - 1)) s0_0 t169 t170) else (none)) = some (r1, r2, r3) := H
    have A8 := Aside0.mk A80
    clear A80
    by_cases c9 : x5_1.length < 140737488355328
    ·rw [if_pos c9] at H
     have LMc9 := Aside0.mk c9
     clear c9
     obtain ⟨y171, hy171⟩ : ∃ y_ : List Int, y_ = (x5_1 ++ [(t168) % 256]) := ⟨_, rfl⟩
     replace H : (spec_l01Cur_bytes.l0 k1 y171 (wrap64 (x6_1 - 1)) s0_0 t169 t170) = some (r1, r2, r3) := by first | (rw [hy171]; with_reducible exact H) | (have H2_ := (Option.bind_some _ _).symm.trans H; rw [hy171]; with_reducible exact H2_) | (have H2_ := (Option.bind_some _ _).symm.trans H; with_reducible exact H2_) | with_reducible exact H | (rw [hy171]; exact H) | exact H
     have Ny171 := Aside0.mk hy171
     clear hy171
     have H' := Aside0.mk H
     clear H
     go_wp2_with (first | ((with_reducible refine gate_callee (f := 44) rfl ?_); refine goesL_ (some 17) rfl rfl Try.func44 (by kernel_rfl) rfl #[.pointer (some ⟨g, 0, none⟩), .int .i64 256] rfl mt_ ?_; (with_reducible refine (spec_l01Cur_pick.calls g s0_0 x1001_1 x1002_1 256 t168 t169 t170 w0 _ ?side1 ?side2 A8.out).mono ?_); (case side1 => repeat (first | (with_reducible first | exact HI0.out | apply IsS122.alloc | apply IsS122.drewN | apply IsS122.drew | apply IsS122.set_1 | apply IsS122.set_2) | exact HI0.out)); (case side2 => repeat (first | (with_reducible first | exact HB.out | apply below_alloc | apply pw_below_drewN | apply below_drew1 | refine below_set ?_ (IsS122.ge HI0.out)) | exact HB.out)); rintro e w10 ⟨rfl, hi, hb, hk⟩; refine ⟨_, rfl, ?_⟩; have n0_ := Aside0.mk (Kd.R_mono (Kd.R_keep (IsS122.apart (show IsS122 w0 _ g s0_0 x1001_1 x1002_1 from by repeat (first | (with_reducible first | exact HI0.out | apply IsS122.alloc | apply IsS122.drewN | apply IsS122.drew | apply IsS122.set_1 | apply IsS122.set_2) | exact HI0.out)) (kr_ HO_5) (by decide)) hk (fun _ h => h.2)) (fun _ h => h.1)); have n1_ := Aside0.mk (KeepBut.trans (by repeat (first | (with_reducible first | exact HK.out | apply KeepBut.set_ | apply keep_drewN | apply keep_drew | apply keep_alloc) | exact HK.out)) hk (.inl rfl)); have n2_ := Aside0.mk (hb); have n3_ := Aside0.mk (hi); clear HO_5; clear HK; clear HB; clear HI0; have HO_5 := n0_; have HK := n1_; have HB := n2_; have HI0 := n3_; clear n0_ n1_ n2_ n3_; (try clear hb); (try clear hb2); (try clear hk); (try clear hi)) | ((with_reducible refine gate_builtin (b := .append) (xs := #[.tmp 15, .tmp 19]) rfl ?_); at_builtin; refine Kd.R_append (Kd.int .u8) w.heap.size rfl (.tmp 15) (.tmp 19) 22 5 (.int .u8 0) 1 rfl Try.underlying22 info5 rfl (by decide) (by omega) u5 x5_1 ((t168) % 256) [.int .u8 ((t168) % 256)] (fun _ => True) (fun _ => False) rfl rfl ?aP (fun _ hk => by first | exact hk.elim | grind) ?aF ?aO (Below.refl _ _) ?aS ?aL ?_; (case aP => exact rfl); (case aF => exact (fun _ _ => trivial)); (case aO => exact (kr_ HO_5)); (case aS => exact (keep_size (w := w) (g := g) (row := none) (by repeat (first | (with_reducible first | exact HK.out | apply KeepBut.set_ | apply keep_drewN | apply keep_drew | apply keep_alloc) | exact HK.out)))); (case aL => have := LMc9.out; omega); intro v172 w11 ho hb hg hat; rw [← Ny171.out] at ho; have n0_ := Aside0.mk (IsS122.grown (by repeat (first | (with_reducible first | exact HI0.out | apply IsS122.alloc | apply IsS122.drewN | apply IsS122.drew | apply IsS122.set_1 | apply IsS122.set_2) | exact HI0.out)) hg (IsS122.own_ne HI0.out HO_5.out (by decide))); have n1_ := Aside0.mk (below_weaken (by repeat (first | (with_reducible first | exact HB.out | apply below_alloc | apply pw_below_drewN | apply below_drew1 | refine below_set ?_ (IsS122.ge HI0.out)) | exact HB.out)) HL.out hb); have n2_ := Aside0.mk (KeepBut.trans (by repeat (first | (with_reducible first | exact HK.out | apply KeepBut.set_ | apply keep_drewN | apply keep_drew | apply keep_alloc) | exact HK.out)) (KeepBut.of_grown hg g) (Kd.R_base2 HO_5.out)); have n3_ := Aside0.mk (ho); clear HI0; clear HB; clear HK; clear HO_5; have HI0 := n0_; have HB := n1_; have HK := n2_; have HO173 := n3_; clear n0_ n1_ n2_ n3_; clear ho hb hg hat))
     go_roundg k1
     case measure => have := HK1.out; omega
     case rel => exact ⟨(y171), (wrap64 (x6_1 - 1)), (t169), (t170), (by first | rfl | (simp; done) | (simp [*]; done)), H', ⟨by have := HK1.out; omega⟩, ⟨kr_ HO173⟩, ⟨by repeat (first | (with_reducible first | exact HI0.out | apply IsS122.alloc | apply IsS122.drewN | apply IsS122.drew | apply IsS122.set_1 | apply IsS122.set_2) | exact HI0.out)⟩, ⟨by repeat (first | (with_reducible first | exact HK.out | apply KeepBut.set_ | apply keep_drewN | apply keep_drew | apply keep_alloc) | exact HK.out)⟩, ⟨by repeat (first | (with_reducible first | exact HB.out | apply below_alloc | apply pw_below_drewN | apply below_drew1 | refine below_set ?_ (IsS122.ge HI0.out)) | exact HB.out)⟩⟩
    ·rw [if_neg c9] at H
     exact absurd H (by simp)
   ·rw [if_neg c7] at H
    have c7b0 : decide (0 < x6_1) = false := decide_eq_false c7
    clear c7
    simp only [Option.some.injEq, Prod.mk.injEq] at H
    obtain ⟨rfl, rfl, rfl⟩ := H
    go_wp2
    go_ret
    exact ⟨_, by first | rfl | (simp [errW_none, errW_some] <;> rfl) | (simp [*, errW_none, errW_some] <;> rfl), by (with_reducible repeat (first | apply Kd.R_alloc | apply Kd.R_drewN | apply Kd.R_drew)); exact HO_5.out, by repeat (first | (with_reducible first | exact HI0.out | apply IsS122.alloc | apply IsS122.drewN | apply IsS122.drew | apply IsS122.set_1 | apply IsS122.set_2) | exact HI0.out), by repeat (first | (with_reducible first | exact HB.out | apply below_alloc | apply pw_below_drewN | apply below_drew1 | refine below_set ?_ (IsS122.ge HI0.out)) | exact HB.out), by repeat (first | (with_reducible first | exact HK.out | apply KeepBut.set_ | apply keep_drewN | apply keep_drew | apply keep_alloc) | exact HK.out)⟩

end Go.Proofs.Ytpoiljfjddehcaa.PFnEtherBack
