-- printed by a program of this session (wip/printx) out of the translation; Lean checks it
import Derived.Test.YtpoiljfjddehcaaPFnEtherBackx0
import Derived.Test.YtpoiljfjddehcaaPFnEtherBackx3
namespace Go.Proofs.Ytpoiljfjddehcaa.PFnEtherBack
open Go.RowKit Go.Proofs.YtpoiljfjddehcaaW.PrintWords Go.Proofs.YtpoiljfjddehcaaW.PrintLast Go.Proofs.YtpoiljfjddehcaaW.PrintMore
attribute [local go_sem] max2_int min2_int max_two min_two max_three min_three max_four min_four   -- for this text's walks alone
set_option linter.unusedVariables false
set_option linter.unusedSimpArgs false

/-! ### impl_EtherOk: function 61 -/
def impl_EtherOk.f (a0_0 : Int) (a0_1 : Int) (a0_2 : Int) (a0_3 : Int) (l0_4 : List Int) : Option (Bool) := (impl_within.f a0_0 0 281474976710655).bind fun t252 => (if t252 = true then ((impl_within.f a0_1 0 281474976710655).bind fun t253 => (if t253 = true then ((impl_within.f a0_2 (-1) 65535).bind fun t254 => (if t254 = true then ((impl_isKind.f a0_3).bind fun t255 => (if t255 = true then ((impl_headOf.f a0_0 a0_1 a0_2 a0_3 l0_4).bind fun t256 => (some (decide ((wrap64 (t256 + (l0_4.length : Int))) ≤ 1600)))) else (some false))) else (some false))) else (some false))) else (some false))
def impl_EtherOk.T1 : Bool × List (List Nat × List Nat) := (true, [([], []), ([0], [0]), ([1], [1]), ([2, 2], [2]), ([3], [3]), ([4, 3], [3, 4]), ([5, 3, 3], [3, 5]), ([3, 6], [3, 6]), ([7, 6], [7]), ([8], [8]), ([9, 8], [8, 9]), ([10, 8, 8], [8, 10]), ([8, 11], [8, 11]), ([12, 11], [12]), ([13], [13]), ([14, 13], [13, 14]), ([15, 13, 13], [13, 15]), ([13, 16], [13, 16]), ([17, 16], [17]), ([18], [18]), ([19, 18, 18], [18, 19]), ([18], [18]), ([21, 18], [18, 21]), ([22, 18], [18, 22]), ([20, 23, 18], [18, 20, 23]), ([24, 18], [18, 24]), ([18, 25], [18, 25]), ([26, 20, 0, 1, 2, 3, 4, 5, 6, 7, 8, 9, 10, 11, 12, 13, 14, 15, 16, 17, 18, 19, 20, 21, 22, 23, 24, 25, 26], [26])])
def impl_EtherOk.B1 : List Nat := [0, 1, 3, 7, 15, 31, 63, 127, 255, 511, 1023, 2047, 4095, 8191, 16383, 32767, 65535, 131071, 262143, 524287, 1048575, 524287, 2621439, 6815743, 16777215, 33554431, 67108863, 134217727]
theorem impl_EtherOk.tab1 : rtab .any (opsOf Try.f61 1) = impl_EtherOk.T1 := by kernel_rfl
theorem impl_EtherOk.bits1 : waitsOk impl_EtherOk.T1.2 impl_EtherOk.B1 = true := by kernel_rfl
set_option maxHeartbeats 8000000 in
set_option maxRecDepth 100000 in
theorem impl_EtherOk.calls (a0_0 : Int) (a0_1 : Int) (a0_2 : Int) (a0_3 : Int) (A0_4 : Option Addr) (c0_4 : Nat) (l0_4 : List Int) (r : Bool) (w : World) (hr0_4 : Kd.C (Kd.int .u8) w A0_4 l0_4.length l0_4) (hc0_4 : l0_4.length ≤ c0_4) (h : impl_EtherOk.f a0_0 a0_1 a0_2 a0_3 l0_4 = some r) :
  Calls Try.prog 61 #[.agg #[.int .i64 a0_0, .int .i64 a0_1, .int .i64 a0_2, .int .i64 a0_3, .slice A0_4 l0_4.length c0_4]] w fun e w' => e = .returned (.bool r) ∧ Below w.heap.size w w' := by
 have hu32 := Try.underlying32
 have HR0_4 := Aside0.mk hr0_4
 have HC0_4 := Aside0.mk hc0_4
 clear hr0_4 hc0_4; have HB := Aside0.mk (Below.refl w.heap.size w)
 have H : ((impl_within.f a0_0 0 281474976710655).bind fun t252 => (if t252 = true then ((impl_within.f a0_1 0 281474976710655).bind fun t253 => (if t253 = true then ((impl_within.f a0_2 (-1) 65535).bind fun t254 => (if t254 = true then ((impl_isKind.f a0_3).bind fun t255 => (if t255 = true then ((impl_headOf.f a0_0 a0_1 a0_2 a0_3 l0_4).bind fun t256 => (some (decide ((wrap64 (t256 + (l0_4.length : Int))) ≤ 1600)))) else (some false))) else (some false))) else (some false))) else (some false))) = some r := h
 clear h
 replace H := Option.bind_eq_some_iff.mp H
 obtain ⟨t252, A20, H⟩ := H
 replace H : (if t252 = true then ((impl_within.f a0_1 0 281474976710655).bind fun t253 => (if t253 = true then ((impl_within.f a0_2 (-1) 65535).bind fun t254 => (if t254 = true then ((impl_isKind.f a0_3).bind fun t255 => (if t255 = true then ((impl_headOf.f a0_0 a0_1 a0_2 a0_3 l0_4).bind fun t256 => (some (decide ((wrap64 (t256 + (l0_4.length : Int))) ≤ 1600)))) else (some false))) else (some false))) else (some false))) else (some false)) = some r := H
 have A2 := Aside0.mk A20
 clear A20
 by_cases c3 : t252 = true
 ·subst c3
  have H1 : ((impl_within.f a0_1 0 281474976710655).bind fun t253 => (if t253 = true then ((impl_within.f a0_2 (-1) 65535).bind fun t254 => (if t254 = true then ((impl_isKind.f a0_3).bind fun t255 => (if t255 = true then ((impl_headOf.f a0_0 a0_1 a0_2 a0_3 l0_4).bind fun t256 => (some (decide ((wrap64 (t256 + (l0_4.length : Int))) ≤ 1600)))) else (some false))) else (some false))) else (some false))) = some r := by rw [if_pos rfl] at H; exact H
  clear H
  have H := H1
  clear H1
  replace H := Option.bind_eq_some_iff.mp H
  obtain ⟨t253, A40, H⟩ := H
  replace H : (if t253 = true then ((impl_within.f a0_2 (-1) 65535).bind fun t254 => (if t254 = true then ((impl_isKind.f a0_3).bind fun t255 => (if t255 = true then ((impl_headOf.f a0_0 a0_1 a0_2 a0_3 l0_4).bind fun t256 => (some (decide ((wrap64 (t256 + (l0_4.length : Int))) ≤ 1600)))) else (some false))) else (some false))) else (some false)) = some r := H
  have A4 := Aside0.mk A40
  clear A40
  by_cases c5 : t253 = true
  ·subst c5
   have H1 : ((impl_within.f a0_2 (-1) 65535).bind fun t254 => (if t254 = true then ((impl_isKind.f a0_3).bind fun t255 => (if t255 = true then ((impl_headOf.f a0_0 a0_1 a0_2 a0_3 l0_4).bind fun t256 => (some (decide ((wrap64 (t256 + (l0_4.length : Int))) ≤ 1600)))) else (some false))) else (some false))) = some r := by rw [if_pos rfl] at H; exact H
   clear H
   have H := H1
   clear H1
   replace H := Option.bind_eq_some_iff.mp H
   obtain ⟨t254, A60, H⟩ := H
   replace H : (if t254 = true then ((impl_isKind.f a0_3).bind fun t255 => (if t255 = true then ((impl_headOf.f a0_0 a0_1 a0_2 a0_3 l0_4).bind fun t256 => (some (decide ((wrap64 (t256 + (l0_4.length : Int))) ≤ 1600)))) else (some false))) else (some false)) = some r := H
   have A6 := Aside0.mk A60
   clear A60
   by_cases c7 : t254 = true
   ·subst c7
    have H1 : ((impl_isKind.f a0_3).bind fun t255 => (if t255 = true then ((impl_headOf.f a0_0 a0_1 a0_2 a0_3 l0_4).bind fun t256 => (some (decide ((wrap64 (t256 + (l0_4.length : Int))) ≤ 1600)))) else (some false))) = some r := by rw [if_pos rfl] at H; exact H
    clear H
    have H := H1
    clear H1
    replace H := Option.bind_eq_some_iff.mp H
    obtain ⟨t255, A80, H⟩ := H
    replace H : (if t255 = true then ((impl_headOf.f a0_0 a0_1 a0_2 a0_3 l0_4).bind fun t256 => (some (decide ((wrap64 (t256 + (l0_4.length : Int))) ≤ 1600)))) else (some false)) = some r := H
    have A8 := Aside0.mk A80
    clear A80
    by_cases c9 : t255 = true
    ·subst c9
     have H1 : ((impl_headOf.f a0_0 a0_1 a0_2 a0_3 l0_4).bind fun t256 => (some (decide ((wrap64 (t256 + (l0_4.length : Int))) ≤ 1600)))) = some r := by rw [if_pos rfl] at H; exact H
     clear H
     have H := H1
     clear H1
     replace H := Option.bind_eq_some_iff.mp H
     obtain ⟨t256, A100, H⟩ := H
     replace H : (some (decide ((wrap64 (t256 + (l0_4.length : Int))) ≤ 1600))) = some r := H
     have A10 := Aside0.mk A100
     clear A100
     obtain rfl := Option.some.inj H
     go_enter Try.func61, Try.ntmps61
     try go_wp2_with (first | ((with_reducible refine gate_dst (N := 1) rfl ?_); (try (refine gate_guard (by rfl) ?_; dsimp only)); refine box_event ?hg (N := 1) ?hd (cs := #[.int .i64 a0_0, .int .i64 a0_1, .int .i64 a0_2, .int .i64 a0_3, .slice A0_4 l0_4.length c0_4]) (t := 32) ?hr ?_; (case hd => rfl); (case hg => rfl); (case hr => first | (go_simp; done) | (go_simp; rfl)); intro gb251 hg w11 hbox hb; have n0_ := Aside0.mk (below_step (be_ HB) hb); have n1_ := Aside0.mk (hbox); have n2_ := gw_ HB hg; have n3_ := gw_ HB hg; clear HB; have HB := n0_; have BK251 := n1_; have GW251 := n2_; have GE251 := n3_; clear n0_ n1_ n2_ n3_; clear hb hbox hg))
     have n0_ := Aside0.mk (blk_drew BK251.out); have n1_ := Aside0.mk (below_drew1 HB.out); clear BK251; clear HB; have BK251 := n0_; have HB := n1_; clear n0_ n1_
     refine start_ (n := 28) (S := fun w' => w'.cell? ⟨gb251, 0, none⟩ = some (.int .i64 a0_0) ∧ w'.cell? ⟨gb251, 1, none⟩ = some (.int .i64 a0_1) ∧ w'.cell? ⟨gb251, 2, none⟩ = some (.int .i64 a0_2) ∧ w'.cell? ⟨gb251, 3, none⟩ = some (.int .i64 a0_3) ∧ w'.cell? ⟨gb251, 4, none⟩ = some (.slice A0_4 l0_4.length c0_4)) (ds := []) (bs 28 0) (by kernel_rfl) rfl rfl ⟨bt_ BK251 0, bt_ BK251 1, bt_ BK251 2, bt_ BK251 3, bt_ BK251 4⟩ (fun hHeld => ?_); refine with_tabW impl_EtherOk.tab1 impl_EtherOk.bits1 (fun HT_ HW_ => ?_)
     generalize w11.drew = w12 at BK251 HB hHeld ⊢
     refine pure_s (i := 0) (N := some 3) (bs 28 1) (any_of HT_.out (by kernel_rfl)) (h := ?_)
     refine take_ (i := 1) (N := some 4) (v := ?_) (a' := ?_) (bs 28 2) rfl rfl (take_ofW HT_.out HW_.out (by kernel_rfl)) (fun _ _ _ h => h) (Or.inl ⟨by rfl, ?_⟩) hHeld ?_ ?_
     rotate_left
     ·rintro w' ⟨s0, s1, s2, s3, s4⟩
      go_simp
      with_reducible rfl
     rotate_left
     ·simp only [Act.put, List.setIfInBounds_toArray, List.set_cons_zero, List.set_cons_succ, i64_w, i32_w]
      rfl
     refine one_ (i := 2) (N := some 5) (bs 28 3) rfl rfl (one_of HT_.out (by kernel_rfl)) (by decide) (fun K hK => ?_)
     refine goes_ Try.func108 (by kernel_rfl) rfl #[.int .i64 a0_0, .int .i64 0, .int .i64 281474976710655] (by rfl) rfl rfl mt_ ?_
     with_reducible refine (impl_within.calls a0_0 0 281474976710655 true _ A2.out).mono ?_
     rintro e w' ⟨rfl, ⟨nd, rfl⟩⟩
     refine ⟨_, rfl, ?_⟩
     refine hK.out _ _ ⟨bt_ BK251 0, bt_ BK251 1, bt_ BK251 2, bt_ BK251 3, bt_ BK251 4⟩ (fun hHeld => ?_)
     clear hK K
     refine norm_ (a' := ?_) ?_ ?_
     rotate_left
     ·show Act.put _ (some 5) _ = _
      simp only [Act.put, List.setIfInBounds_toArray, List.set_cons_zero, List.set_cons_succ, i64_w, i32_w]
      rfl
     refine pure_s (i := 3) (N := some 6) (bs 28 4) (any_of HT_.out (by kernel_rfl)) (h := ?_)
     refine pure_s (i := 4) (N := some 7) (bs 28 5) (any_of HT_.out (by kernel_rfl)) (h := ?_)
     refine take_ (i := 5) (N := some 8) (v := ?_) (a' := ?_) (bs 28 6) rfl rfl (take_ofW HT_.out HW_.out (by kernel_rfl)) (fun _ _ _ h => h) (Or.inl ⟨by rfl, ?_⟩) hHeld ?_ ?_
     rotate_left
     ·rintro w' ⟨s0, s1, s2, s3, s4⟩
      go_simp
      with_reducible rfl
     rotate_left
     ·simp only [Act.put, List.setIfInBounds_toArray, List.set_cons_zero, List.set_cons_succ, i64_w, i32_w]
      rfl
     refine one_ (i := 6) (N := some 9) (bs 28 7) rfl rfl (one_of HT_.out (by kernel_rfl)) (by decide) (fun K hK => ?_)
     refine goes_ Try.func108 (by kernel_rfl) rfl #[.int .i64 a0_1, .int .i64 0, .int .i64 281474976710655] (by rfl) rfl rfl mt_ ?_
     with_reducible refine (impl_within.calls a0_1 0 281474976710655 true _ A4.out).mono ?_
     rintro e w' ⟨rfl, ⟨nd, rfl⟩⟩
     refine ⟨_, rfl, ?_⟩
     refine hK.out _ _ ⟨bt_ BK251 0, bt_ BK251 1, bt_ BK251 2, bt_ BK251 3, bt_ BK251 4⟩ (fun hHeld => ?_)
     clear hK K
     refine norm_ (a' := ?_) ?_ ?_
     rotate_left
     ·show Act.put _ (some 9) _ = _
      simp only [Act.put, List.setIfInBounds_toArray, List.set_cons_zero, List.set_cons_succ, i64_w, i32_w]
      rfl
     refine pure_s (i := 7) (N := some 10) (bs 28 8) (any_of HT_.out (by kernel_rfl)) (h := ?_)
     refine pure_s (i := 8) (N := some 11) (bs 28 9) (any_of HT_.out (by kernel_rfl)) (h := ?_)
     refine pure_s (i := 9) (N := some 12) (bs 28 10) (any_of HT_.out (by kernel_rfl)) (h := ?_)
     refine take_ (i := 10) (N := some 13) (v := ?_) (a' := ?_) (bs 28 11) rfl rfl (take_ofW HT_.out HW_.out (by kernel_rfl)) (fun _ _ _ h => h) (Or.inl ⟨by rfl, ?_⟩) hHeld ?_ ?_
     rotate_left
     ·rintro w' ⟨s0, s1, s2, s3, s4⟩
      go_simp
      with_reducible rfl
     rotate_left
     ·simp only [Act.put, List.setIfInBounds_toArray, List.set_cons_zero, List.set_cons_succ, i64_w, i32_w]
      rfl
     refine one_ (i := 11) (N := some 14) (bs 28 12) rfl rfl (one_of HT_.out (by kernel_rfl)) (by decide) (fun K hK => ?_)
     refine goes_ Try.func108 (by kernel_rfl) rfl #[.int .i64 a0_2, .int .i64 (-1), .int .i64 65535] (by rfl) rfl rfl mt_ ?_
     with_reducible refine (impl_within.calls a0_2 (-1) 65535 true _ A6.out).mono ?_
     rintro e w' ⟨rfl, ⟨nd, rfl⟩⟩
     refine ⟨_, rfl, ?_⟩
     refine hK.out _ _ ⟨bt_ BK251 0, bt_ BK251 1, bt_ BK251 2, bt_ BK251 3, bt_ BK251 4⟩ (fun hHeld => ?_)
     clear hK K
     refine norm_ (a' := ?_) ?_ ?_
     rotate_left
     ·show Act.put _ (some 14) _ = _
      simp only [Act.put, List.setIfInBounds_toArray, List.set_cons_zero, List.set_cons_succ, i64_w, i32_w]
      rfl
     refine pure_s (i := 12) (N := some 15) (bs 28 13) (any_of HT_.out (by kernel_rfl)) (h := ?_)
     refine pure_s (i := 13) (N := some 16) (bs 28 14) (any_of HT_.out (by kernel_rfl)) (h := ?_)
     refine pure_s (i := 14) (N := some 17) (bs 28 15) (any_of HT_.out (by kernel_rfl)) (h := ?_)
     refine take_ (i := 15) (N := some 18) (v := ?_) (a' := ?_) (bs 28 16) rfl rfl (take_ofW HT_.out HW_.out (by kernel_rfl)) (fun _ _ _ h => h) (Or.inl ⟨by rfl, ?_⟩) hHeld ?_ ?_
     rotate_left
     ·rintro w' ⟨s0, s1, s2, s3, s4⟩
      go_simp
      with_reducible rfl
     rotate_left
     ·simp only [Act.put, List.setIfInBounds_toArray, List.set_cons_zero, List.set_cons_succ, i64_w, i32_w]
      rfl
     refine one_ (i := 16) (N := some 19) (bs 28 17) rfl rfl (one_of HT_.out (by kernel_rfl)) (by decide) (fun K hK => ?_)
     refine goes_ Try.func66 (by kernel_rfl) rfl #[.int .i64 a0_3] (by rfl) rfl rfl mt_ ?_
     with_reducible refine (impl_isKind.calls a0_3 true _ A8.out).mono ?_
     rintro e w' ⟨rfl, ⟨nd, rfl⟩⟩
     refine ⟨_, rfl, ?_⟩
     refine hK.out _ _ ⟨bt_ BK251 0, bt_ BK251 1, bt_ BK251 2, bt_ BK251 3, bt_ BK251 4⟩ (fun hHeld => ?_)
     clear hK K
     refine norm_ (a' := ?_) ?_ ?_
     rotate_left
     ·show Act.put _ (some 19) _ = _
      simp only [Act.put, List.setIfInBounds_toArray, List.set_cons_zero, List.set_cons_succ, i64_w, i32_w]
      rfl
     refine pure_s (i := 17) (N := some 20) (bs 28 18) (any_of HT_.out (by kernel_rfl)) (h := ?_)
     refine pure_s (i := 18) (N := some 21) (bs 28 19) (any_of HT_.out (by kernel_rfl)) (h := ?_)
     refine pure_s (i := 21) (N := some 24) #[oT,oT,oT,oT,oT,oT,oT,oT,oT,oT,oT,oT,oT,oT,oT,oT,oT,oT,oT,oF,oF,oT,oF,oF,oF,oF,oF,oF] (any_of HT_.out (by kernel_rfl)) (h := ?_)
     refine take_ (i := 19) (N := some 22) (v := ?_) (a' := ?_) #[oT,oT,oT,oT,oT,oT,oT,oT,oT,oT,oT,oT,oT,oT,oT,oT,oT,oT,oT,oT,oF,oT,oF,oF,oF,oF,oF,oF] rfl rfl (take_ofW HT_.out HW_.out (by kernel_rfl)) (fun _ _ _ h => h) (Or.inl ⟨by rfl, ?_⟩) hHeld ?_ ?_
     rotate_left
     ·rintro w' ⟨s0, s1, s2, s3, s4⟩
      go_simp
      with_reducible rfl
     rotate_left
     ·simp only [Act.put, List.setIfInBounds_toArray, List.set_cons_zero, List.set_cons_succ, i64_w, i32_w]
      rfl
     refine take_ (i := 22) (N := some 25) (v := ?_) (a' := ?_) #[oT,oT,oT,oT,oT,oT,oT,oT,oT,oT,oT,oT,oT,oT,oT,oT,oT,oT,oT,oT,oF,oT,oT,oF,oF,oF,oF,oF] rfl rfl (take_ofW HT_.out HW_.out (by kernel_rfl)) (fun _ _ _ h => h) (Or.inl ⟨by rfl, ?_⟩) hHeld ?_ ?_
     rotate_left
     ·rintro w' ⟨s0, s1, s2, s3, s4⟩
      go_simp
      with_reducible rfl
     rotate_left
     ·simp only [Act.put, List.setIfInBounds_toArray, List.set_cons_zero, List.set_cons_succ, i64_w, i32_w]
      rfl
     refine pure_s (i := 23) (N := some 26) #[oT,oT,oT,oT,oT,oT,oT,oT,oT,oT,oT,oT,oT,oT,oT,oT,oT,oT,oT,oT,oF,oT,oT,oT,oF,oF,oF,oF] (any_of HT_.out (by kernel_rfl)) (h := ?_)
     refine one_ (i := 20) (N := some 23) (bs 28 24) rfl rfl (one_of HT_.out (by kernel_rfl)) (by decide) (fun K hK => ?_)
     refine goes_ Try.func68 (by kernel_rfl) rfl #[.agg #[.int .i64 a0_0, .int .i64 a0_1, .int .i64 a0_2, .int .i64 a0_3, .slice A0_4 l0_4.length c0_4]] (by rfl) rfl rfl mt_ ?_
     with_reducible refine (impl_headOf.calls a0_0 a0_1 a0_2 a0_3 _ _ l0_4 t256 _ ?side1 ?side2 A10.out).mono ?_
     (case side1 => repeat (first | exact (Kd.C_below HR0_4.out (bf_ HB)) | (with_reducible refine Kd.C_alloc ?_ _) | (with_reducible refine Kd.C_drewN ?_ _) | (with_reducible refine Kd.C_drew ?_)))
     (case side2 => exact HC0_4.out)
     rintro e w13 ⟨rfl, hb⟩
     refine ⟨_, rfl, ?_⟩
     have n0_ := bb_ BK251 hb; have n1_ := Aside0.mk (below_step (bf_ HB) hb); clear BK251; clear HB; have BK251 := n0_; have HB := n1_; clear n0_ n1_; (try clear hb); (try clear hb2); (try clear hk); (try clear hi)
     refine hK.out _ _ ⟨bt_ BK251 0, bt_ BK251 1, bt_ BK251 2, bt_ BK251 3, bt_ BK251 4⟩ (fun hHeld => ?_)
     clear hK K
     refine norm_ (a' := ?_) ?_ ?_
     rotate_left
     ·show Act.put _ (some 23) _ = _
      simp only [Act.put, List.setIfInBounds_toArray, List.set_cons_zero, List.set_cons_succ, i64_w, i32_w]
      rfl
     refine pure_s (i := 24) (N := some 27) (bs 28 25) (any_of HT_.out (by kernel_rfl)) (h := ?_)
     refine pure_s (i := 25) (N := some 28) (bs 28 26) (any_of HT_.out (by kernel_rfl)) (h := ?_)
     refine pure_s (i := 26) (N := some 29) (bs 28 27) (any_of HT_.out (by kernel_rfl)) (h := ?_)
     refine pure_s (i := 27) (N := some 2) (bs 28 28) (any_of HT_.out (by kernel_rfl)) (h := ?_)
     refine done_ (done_of HT_.out (by kernel_rfl)) ?_
     try go_wp2
     go_ret
     exact ⟨by first | rfl | (simp [errW_none, errW_some] <;> rfl) | (simp [*, errW_none, errW_some] <;> rfl), bf_ HB⟩
    ·replace c9 := Bool.eq_false_iff.mpr c9
     subst c9
     have H1 : (some false) = some r := by rw [if_neg (show ¬ (false = true) by decide)] at H; exact H
     clear H
     have H := H1
     clear H1
     obtain rfl := Option.some.inj H
     go_enter Try.func61, Try.ntmps61
     try go_wp2_with (first | ((with_reducible refine gate_dst (N := 1) rfl ?_); (try (refine gate_guard (by rfl) ?_; dsimp only)); refine box_event ?hg (N := 1) ?hd (cs := #[.int .i64 a0_0, .int .i64 a0_1, .int .i64 a0_2, .int .i64 a0_3, .slice A0_4 l0_4.length c0_4]) (t := 32) ?hr ?_; (case hd => rfl); (case hg => rfl); (case hr => first | (go_simp; done) | (go_simp; rfl)); intro gb251 hg w14 hbox hb; have n0_ := Aside0.mk (below_step (be_ HB) hb); have n1_ := Aside0.mk (hbox); have n2_ := gw_ HB hg; have n3_ := gw_ HB hg; clear HB; have HB := n0_; have BK251 := n1_; have GW251 := n2_; have GE251 := n3_; clear n0_ n1_ n2_ n3_; clear hb hbox hg))
     have n0_ := Aside0.mk (blk_drew BK251.out); have n1_ := Aside0.mk (below_drew1 HB.out); clear BK251; clear HB; have BK251 := n0_; have HB := n1_; clear n0_ n1_
     refine start_ (n := 28) (S := fun w' => w'.cell? ⟨gb251, 0, none⟩ = some (.int .i64 a0_0) ∧ w'.cell? ⟨gb251, 1, none⟩ = some (.int .i64 a0_1) ∧ w'.cell? ⟨gb251, 2, none⟩ = some (.int .i64 a0_2) ∧ w'.cell? ⟨gb251, 3, none⟩ = some (.int .i64 a0_3) ∧ w'.cell? ⟨gb251, 4, none⟩ = some (.slice A0_4 l0_4.length c0_4)) (ds := []) (bs 28 0) (by kernel_rfl) rfl rfl ⟨bt_ BK251 0, bt_ BK251 1, bt_ BK251 2, bt_ BK251 3, bt_ BK251 4⟩ (fun hHeld => ?_); refine with_tabW impl_EtherOk.tab1 impl_EtherOk.bits1 (fun HT_ HW_ => ?_)
     generalize w14.drew = w15 at BK251 HB hHeld ⊢
     refine pure_s (i := 0) (N := some 3) (bs 28 1) (any_of HT_.out (by kernel_rfl)) (h := ?_)
     refine take_ (i := 1) (N := some 4) (v := ?_) (a' := ?_) (bs 28 2) rfl rfl (take_ofW HT_.out HW_.out (by kernel_rfl)) (fun _ _ _ h => h) (Or.inl ⟨by rfl, ?_⟩) hHeld ?_ ?_
     rotate_left
     ·rintro w' ⟨s0, s1, s2, s3, s4⟩
      go_simp
      with_reducible rfl
     rotate_left
     ·simp only [Act.put, List.setIfInBounds_toArray, List.set_cons_zero, List.set_cons_succ, i64_w, i32_w]
      rfl
     refine one_ (i := 2) (N := some 5) (bs 28 3) rfl rfl (one_of HT_.out (by kernel_rfl)) (by decide) (fun K hK => ?_)
     refine goes_ Try.func108 (by kernel_rfl) rfl #[.int .i64 a0_0, .int .i64 0, .int .i64 281474976710655] (by rfl) rfl rfl mt_ ?_
     with_reducible refine (impl_within.calls a0_0 0 281474976710655 true _ A2.out).mono ?_
     rintro e w' ⟨rfl, ⟨nd, rfl⟩⟩
     refine ⟨_, rfl, ?_⟩
     refine hK.out _ _ ⟨bt_ BK251 0, bt_ BK251 1, bt_ BK251 2, bt_ BK251 3, bt_ BK251 4⟩ (fun hHeld => ?_)
     clear hK K
     refine norm_ (a' := ?_) ?_ ?_
     rotate_left
     ·show Act.put _ (some 5) _ = _
      simp only [Act.put, List.setIfInBounds_toArray, List.set_cons_zero, List.set_cons_succ, i64_w, i32_w]
      rfl
     refine pure_s (i := 3) (N := some 6) (bs 28 4) (any_of HT_.out (by kernel_rfl)) (h := ?_)
     refine pure_s (i := 4) (N := some 7) (bs 28 5) (any_of HT_.out (by kernel_rfl)) (h := ?_)
     refine take_ (i := 5) (N := some 8) (v := ?_) (a' := ?_) (bs 28 6) rfl rfl (take_ofW HT_.out HW_.out (by kernel_rfl)) (fun _ _ _ h => h) (Or.inl ⟨by rfl, ?_⟩) hHeld ?_ ?_
     rotate_left
     ·rintro w' ⟨s0, s1, s2, s3, s4⟩
      go_simp
      with_reducible rfl
     rotate_left
     ·simp only [Act.put, List.setIfInBounds_toArray, List.set_cons_zero, List.set_cons_succ, i64_w, i32_w]
      rfl
     refine one_ (i := 6) (N := some 9) (bs 28 7) rfl rfl (one_of HT_.out (by kernel_rfl)) (by decide) (fun K hK => ?_)
     refine goes_ Try.func108 (by kernel_rfl) rfl #[.int .i64 a0_1, .int .i64 0, .int .i64 281474976710655] (by rfl) rfl rfl mt_ ?_
     with_reducible refine (impl_within.calls a0_1 0 281474976710655 true _ A4.out).mono ?_
     rintro e w' ⟨rfl, ⟨nd, rfl⟩⟩
     refine ⟨_, rfl, ?_⟩
     refine hK.out _ _ ⟨bt_ BK251 0, bt_ BK251 1, bt_ BK251 2, bt_ BK251 3, bt_ BK251 4⟩ (fun hHeld => ?_)
     clear hK K
     refine norm_ (a' := ?_) ?_ ?_
     rotate_left
     ·show Act.put _ (some 9) _ = _
      simp only [Act.put, List.setIfInBounds_toArray, List.set_cons_zero, List.set_cons_succ, i64_w, i32_w]
      rfl
     refine pure_s (i := 7) (N := some 10) (bs 28 8) (any_of HT_.out (by kernel_rfl)) (h := ?_)
     refine pure_s (i := 8) (N := some 11) (bs 28 9) (any_of HT_.out (by kernel_rfl)) (h := ?_)
     refine pure_s (i := 9) (N := some 12) (bs 28 10) (any_of HT_.out (by kernel_rfl)) (h := ?_)
     refine take_ (i := 10) (N := some 13) (v := ?_) (a' := ?_) (bs 28 11) rfl rfl (take_ofW HT_.out HW_.out (by kernel_rfl)) (fun _ _ _ h => h) (Or.inl ⟨by rfl, ?_⟩) hHeld ?_ ?_
     rotate_left
     ·rintro w' ⟨s0, s1, s2, s3, s4⟩
      go_simp
      with_reducible rfl
     rotate_left
     ·simp only [Act.put, List.setIfInBounds_toArray, List.set_cons_zero, List.set_cons_succ, i64_w, i32_w]
      rfl
     refine one_ (i := 11) (N := some 14) (bs 28 12) rfl rfl (one_of HT_.out (by kernel_rfl)) (by decide) (fun K hK => ?_)
     refine goes_ Try.func108 (by kernel_rfl) rfl #[.int .i64 a0_2, .int .i64 (-1), .int .i64 65535] (by rfl) rfl rfl mt_ ?_
     with_reducible refine (impl_within.calls a0_2 (-1) 65535 true _ A6.out).mono ?_
     rintro e w' ⟨rfl, ⟨nd, rfl⟩⟩
     refine ⟨_, rfl, ?_⟩
     refine hK.out _ _ ⟨bt_ BK251 0, bt_ BK251 1, bt_ BK251 2, bt_ BK251 3, bt_ BK251 4⟩ (fun hHeld => ?_)
     clear hK K
     refine norm_ (a' := ?_) ?_ ?_
     rotate_left
     ·show Act.put _ (some 14) _ = _
      simp only [Act.put, List.setIfInBounds_toArray, List.set_cons_zero, List.set_cons_succ, i64_w, i32_w]
      rfl
     refine pure_s (i := 12) (N := some 15) (bs 28 13) (any_of HT_.out (by kernel_rfl)) (h := ?_)
     refine pure_s (i := 13) (N := some 16) (bs 28 14) (any_of HT_.out (by kernel_rfl)) (h := ?_)
     refine pure_s (i := 14) (N := some 17) (bs 28 15) (any_of HT_.out (by kernel_rfl)) (h := ?_)
     refine take_ (i := 15) (N := some 18) (v := ?_) (a' := ?_) (bs 28 16) rfl rfl (take_ofW HT_.out HW_.out (by kernel_rfl)) (fun _ _ _ h => h) (Or.inl ⟨by rfl, ?_⟩) hHeld ?_ ?_
     rotate_left
     ·rintro w' ⟨s0, s1, s2, s3, s4⟩
      go_simp
      with_reducible rfl
     rotate_left
     ·simp only [Act.put, List.setIfInBounds_toArray, List.set_cons_zero, List.set_cons_succ, i64_w, i32_w]
      rfl
     refine one_ (i := 16) (N := some 19) (bs 28 17) rfl rfl (one_of HT_.out (by kernel_rfl)) (by decide) (fun K hK => ?_)
     refine goes_ Try.func66 (by kernel_rfl) rfl #[.int .i64 a0_3] (by rfl) rfl rfl mt_ ?_
     with_reducible refine (impl_isKind.calls a0_3 false _ A8.out).mono ?_
     rintro e w' ⟨rfl, ⟨nd, rfl⟩⟩
     refine ⟨_, rfl, ?_⟩
     refine hK.out _ _ ⟨bt_ BK251 0, bt_ BK251 1, bt_ BK251 2, bt_ BK251 3, bt_ BK251 4⟩ (fun hHeld => ?_)
     clear hK K
     refine norm_ (a' := ?_) ?_ ?_
     rotate_left
     ·show Act.put _ (some 19) _ = _
      simp only [Act.put, List.setIfInBounds_toArray, List.set_cons_zero, List.set_cons_succ, i64_w, i32_w]
      rfl
     refine pure_s (i := 17) (N := some 20) (bs 28 18) (any_of HT_.out (by kernel_rfl)) (h := ?_)
     refine pure_s (i := 18) (N := some 21) (bs 28 19) (any_of HT_.out (by kernel_rfl)) (h := ?_)
     refine pure_u (i := 19) (N := some 22) (bs 28 20) (any_of HT_.out (by kernel_rfl)) (h := ?_)
     refine pure_u (i := 20) (N := some 23) (bs 28 21) (any_of HT_.out (by kernel_rfl)) (h := ?_)
     refine pure_u (i := 21) (N := some 24) (bs 28 22) (any_of HT_.out (by kernel_rfl)) (h := ?_)
     refine pure_u (i := 22) (N := some 25) (bs 28 23) (any_of HT_.out (by kernel_rfl)) (h := ?_)
     refine pure_u (i := 23) (N := some 26) (bs 28 24) (any_of HT_.out (by kernel_rfl)) (h := ?_)
     refine pure_u (i := 24) (N := some 27) (bs 28 25) (any_of HT_.out (by kernel_rfl)) (h := ?_)
     refine pure_u (i := 25) (N := some 28) (bs 28 26) (any_of HT_.out (by kernel_rfl)) (h := ?_)
     refine pure_s (i := 26) (N := some 29) (bs 28 27) (any_of HT_.out (by kernel_rfl)) (h := ?_)
     refine pure_s (i := 27) (N := some 2) (bs 28 28) (any_of HT_.out (by kernel_rfl)) (h := ?_)
     refine done_ (done_of HT_.out (by kernel_rfl)) ?_
     try go_wp2
     go_ret
     exact ⟨by first | rfl | (simp [errW_none, errW_some] <;> rfl) | (simp [*, errW_none, errW_some] <;> rfl), bf_ HB⟩
   ·replace c7 := Bool.eq_false_iff.mpr c7
    subst c7
    have H1 : (some false) = some r := by rw [if_neg (show ¬ (false = true) by decide)] at H; exact H
    clear H
    have H := H1
    clear H1
    obtain rfl := Option.some.inj H
    go_enter Try.func61, Try.ntmps61
    try go_wp2_with (first | ((with_reducible refine gate_dst (N := 1) rfl ?_); (try (refine gate_guard (by rfl) ?_; dsimp only)); refine box_event ?hg (N := 1) ?hd (cs := #[.int .i64 a0_0, .int .i64 a0_1, .int .i64 a0_2, .int .i64 a0_3, .slice A0_4 l0_4.length c0_4]) (t := 32) ?hr ?_; (case hd => rfl); (case hg => rfl); (case hr => first | (go_simp; done) | (go_simp; rfl)); intro gb251 hg w16 hbox hb; have n0_ := Aside0.mk (below_step (be_ HB) hb); have n1_ := Aside0.mk (hbox); have n2_ := gw_ HB hg; have n3_ := gw_ HB hg; clear HB; have HB := n0_; have BK251 := n1_; have GW251 := n2_; have GE251 := n3_; clear n0_ n1_ n2_ n3_; clear hb hbox hg))
    have n0_ := Aside0.mk (blk_drew BK251.out); have n1_ := Aside0.mk (below_drew1 HB.out); clear BK251; clear HB; have BK251 := n0_; have HB := n1_; clear n0_ n1_
    refine start_ (n := 28) (S := fun w' => w'.cell? ⟨gb251, 0, none⟩ = some (.int .i64 a0_0) ∧ w'.cell? ⟨gb251, 1, none⟩ = some (.int .i64 a0_1) ∧ w'.cell? ⟨gb251, 2, none⟩ = some (.int .i64 a0_2) ∧ w'.cell? ⟨gb251, 3, none⟩ = some (.int .i64 a0_3) ∧ w'.cell? ⟨gb251, 4, none⟩ = some (.slice A0_4 l0_4.length c0_4)) (ds := []) (bs 28 0) (by kernel_rfl) rfl rfl ⟨bt_ BK251 0, bt_ BK251 1, bt_ BK251 2, bt_ BK251 3, bt_ BK251 4⟩ (fun hHeld => ?_); refine with_tabW impl_EtherOk.tab1 impl_EtherOk.bits1 (fun HT_ HW_ => ?_)
    generalize w16.drew = w17 at BK251 HB hHeld ⊢
    refine pure_s (i := 0) (N := some 3) (bs 28 1) (any_of HT_.out (by kernel_rfl)) (h := ?_)
    refine take_ (i := 1) (N := some 4) (v := ?_) (a' := ?_) (bs 28 2) rfl rfl (take_ofW HT_.out HW_.out (by kernel_rfl)) (fun _ _ _ h => h) (Or.inl ⟨by rfl, ?_⟩) hHeld ?_ ?_
    rotate_left
    ·rintro w' ⟨s0, s1, s2, s3, s4⟩
     go_simp
     with_reducible rfl
    rotate_left
    ·simp only [Act.put, List.setIfInBounds_toArray, List.set_cons_zero, List.set_cons_succ, i64_w, i32_w]
     rfl
    refine one_ (i := 2) (N := some 5) (bs 28 3) rfl rfl (one_of HT_.out (by kernel_rfl)) (by decide) (fun K hK => ?_)
    refine goes_ Try.func108 (by kernel_rfl) rfl #[.int .i64 a0_0, .int .i64 0, .int .i64 281474976710655] (by rfl) rfl rfl mt_ ?_
    with_reducible refine (impl_within.calls a0_0 0 281474976710655 true _ A2.out).mono ?_
    rintro e w' ⟨rfl, ⟨nd, rfl⟩⟩
    refine ⟨_, rfl, ?_⟩
    refine hK.out _ _ ⟨bt_ BK251 0, bt_ BK251 1, bt_ BK251 2, bt_ BK251 3, bt_ BK251 4⟩ (fun hHeld => ?_)
    clear hK K
    refine norm_ (a' := ?_) ?_ ?_
    rotate_left
    ·show Act.put _ (some 5) _ = _
     simp only [Act.put, List.setIfInBounds_toArray, List.set_cons_zero, List.set_cons_succ, i64_w, i32_w]
     rfl
    refine pure_s (i := 3) (N := some 6) (bs 28 4) (any_of HT_.out (by kernel_rfl)) (h := ?_)
    refine pure_s (i := 4) (N := some 7) (bs 28 5) (any_of HT_.out (by kernel_rfl)) (h := ?_)
    refine take_ (i := 5) (N := some 8) (v := ?_) (a' := ?_) (bs 28 6) rfl rfl (take_ofW HT_.out HW_.out (by kernel_rfl)) (fun _ _ _ h => h) (Or.inl ⟨by rfl, ?_⟩) hHeld ?_ ?_
    rotate_left
    ·rintro w' ⟨s0, s1, s2, s3, s4⟩
     go_simp
     with_reducible rfl
    rotate_left
    ·simp only [Act.put, List.setIfInBounds_toArray, List.set_cons_zero, List.set_cons_succ, i64_w, i32_w]
     rfl
    refine one_ (i := 6) (N := some 9) (bs 28 7) rfl rfl (one_of HT_.out (by kernel_rfl)) (by decide) (fun K hK => ?_)
    refine goes_ Try.func108 (by kernel_rfl) rfl #[.int .i64 a0_1, .int .i64 0, .int .i64 281474976710655] (by rfl) rfl rfl mt_ ?_
    with_reducible refine (impl_within.calls a0_1 0 281474976710655 true _ A4.out).mono ?_
    rintro e w' ⟨rfl, ⟨nd, rfl⟩⟩
    refine ⟨_, rfl, ?_⟩
    refine hK.out _ _ ⟨bt_ BK251 0, bt_ BK251 1, bt_ BK251 2, bt_ BK251 3, bt_ BK251 4⟩ (fun hHeld => ?_)
    clear hK K
    refine norm_ (a' := ?_) ?_ ?_
    rotate_left
    ·show Act.put _ (some 9) _ = _
     simp only [Act.put, List.setIfInBounds_toArray, List.set_cons_zero, List.set_cons_succ, i64_w, i32_w]
     rfl
    refine pure_s (i := 7) (N := some 10) (bs 28 8) (any_of HT_.out (by kernel_rfl)) (h := ?_)
    refine pure_s (i := 8) (N := some 11) (bs 28 9) (any_of HT_.out (by kernel_rfl)) (h := ?_)
    refine pure_s (i := 9) (N := some 12) (bs 28 10) (any_of HT_.out (by kernel_rfl)) (h := ?_)
    refine take_ (i := 10) (N := some 13) (v := ?_) (a' := ?_) (bs 28 11) rfl rfl (take_ofW HT_.out HW_.out (by kernel_rfl)) (fun _ _ _ h => h) (Or.inl ⟨by rfl, ?_⟩) hHeld ?_ ?_
    rotate_left
    ·rintro w' ⟨s0, s1, s2, s3, s4⟩
     go_simp
     with_reducible rfl
    rotate_left
    ·simp only [Act.put, List.setIfInBounds_toArray, List.set_cons_zero, List.set_cons_succ, i64_w, i32_w]
     rfl
    refine one_ (i := 11) (N := some 14) (bs 28 12) rfl rfl (one_of HT_.out (by kernel_rfl)) (by decide) (fun K hK => ?_)
    refine goes_ Try.func108 (by kernel_rfl) rfl #[.int .i64 a0_2, .int .i64 (-1), .int .i64 65535] (by rfl) rfl rfl mt_ ?_
    with_reducible refine (impl_within.calls a0_2 (-1) 65535 false _ A6.out).mono ?_
    rintro e w' ⟨rfl, ⟨nd, rfl⟩⟩
    refine ⟨_, rfl, ?_⟩
    refine hK.out _ _ ⟨bt_ BK251 0, bt_ BK251 1, bt_ BK251 2, bt_ BK251 3, bt_ BK251 4⟩ (fun hHeld => ?_)
    clear hK K
    refine norm_ (a' := ?_) ?_ ?_
    rotate_left
    ·show Act.put _ (some 14) _ = _
     simp only [Act.put, List.setIfInBounds_toArray, List.set_cons_zero, List.set_cons_succ, i64_w, i32_w]
     rfl
    refine pure_s (i := 12) (N := some 15) (bs 28 13) (any_of HT_.out (by kernel_rfl)) (h := ?_)
    refine pure_s (i := 13) (N := some 16) (bs 28 14) (any_of HT_.out (by kernel_rfl)) (h := ?_)
    refine pure_u (i := 14) (N := some 17) (bs 28 15) (any_of HT_.out (by kernel_rfl)) (h := ?_)
    refine pure_u (i := 15) (N := some 18) (bs 28 16) (any_of HT_.out (by kernel_rfl)) (h := ?_)
    refine pure_u (i := 16) (N := some 19) (bs 28 17) (any_of HT_.out (by kernel_rfl)) (h := ?_)
    refine pure_s (i := 17) (N := some 20) (bs 28 18) (any_of HT_.out (by kernel_rfl)) (h := ?_)
    refine pure_s (i := 18) (N := some 21) (bs 28 19) (any_of HT_.out (by kernel_rfl)) (h := ?_)
    refine pure_u (i := 19) (N := some 22) (bs 28 20) (any_of HT_.out (by kernel_rfl)) (h := ?_)
    refine pure_u (i := 20) (N := some 23) (bs 28 21) (any_of HT_.out (by kernel_rfl)) (h := ?_)
    refine pure_u (i := 21) (N := some 24) (bs 28 22) (any_of HT_.out (by kernel_rfl)) (h := ?_)
    refine pure_u (i := 22) (N := some 25) (bs 28 23) (any_of HT_.out (by kernel_rfl)) (h := ?_)
    refine pure_u (i := 23) (N := some 26) (bs 28 24) (any_of HT_.out (by kernel_rfl)) (h := ?_)
    refine pure_u (i := 24) (N := some 27) (bs 28 25) (any_of HT_.out (by kernel_rfl)) (h := ?_)
    refine pure_u (i := 25) (N := some 28) (bs 28 26) (any_of HT_.out (by kernel_rfl)) (h := ?_)
    refine pure_s (i := 26) (N := some 29) (bs 28 27) (any_of HT_.out (by kernel_rfl)) (h := ?_)
    refine pure_s (i := 27) (N := some 2) (bs 28 28) (any_of HT_.out (by kernel_rfl)) (h := ?_)
    refine done_ (done_of HT_.out (by kernel_rfl)) ?_
    try go_wp2
    go_ret
    exact ⟨by first | rfl | (simp [errW_none, errW_some] <;> rfl) | (simp [*, errW_none, errW_some] <;> rfl), bf_ HB⟩
  ·replace c5 := Bool.eq_false_iff.mpr c5
   subst c5
   have H1 : (some false) = some r := by rw [if_neg (show ¬ (false = true) by decide)] at H; exact H
   clear H
   have H := H1
   clear H1
   obtain rfl := Option.some.inj H
   go_enter Try.func61, Try.ntmps61
   try go_wp2_with (first | ((with_reducible refine gate_dst (N := 1) rfl ?_); (try (refine gate_guard (by rfl) ?_; dsimp only)); refine box_event ?hg (N := 1) ?hd (cs := #[.int .i64 a0_0, .int .i64 a0_1, .int .i64 a0_2, .int .i64 a0_3, .slice A0_4 l0_4.length c0_4]) (t := 32) ?hr ?_; (case hd => rfl); (case hg => rfl); (case hr => first | (go_simp; done) | (go_simp; rfl)); intro gb251 hg w18 hbox hb; have n0_ := Aside0.mk (below_step (be_ HB) hb); have n1_ := Aside0.mk (hbox); have n2_ := gw_ HB hg; have n3_ := gw_ HB hg; clear HB; have HB := n0_; have BK251 := n1_; have GW251 := n2_; have GE251 := n3_; clear n0_ n1_ n2_ n3_; clear hb hbox hg))
   have n0_ := Aside0.mk (blk_drew BK251.out); have n1_ := Aside0.mk (below_drew1 HB.out); clear BK251; clear HB; have BK251 := n0_; have HB := n1_; clear n0_ n1_
   refine start_ (n := 28) (S := fun w' => w'.cell? ⟨gb251, 0, none⟩ = some (.int .i64 a0_0) ∧ w'.cell? ⟨gb251, 1, none⟩ = some (.int .i64 a0_1) ∧ w'.cell? ⟨gb251, 2, none⟩ = some (.int .i64 a0_2) ∧ w'.cell? ⟨gb251, 3, none⟩ = some (.int .i64 a0_3) ∧ w'.cell? ⟨gb251, 4, none⟩ = some (.slice A0_4 l0_4.length c0_4)) (ds := []) (bs 28 0) (by kernel_rfl) rfl rfl ⟨bt_ BK251 0, bt_ BK251 1, bt_ BK251 2, bt_ BK251 3, bt_ BK251 4⟩ (fun hHeld => ?_); refine with_tabW impl_EtherOk.tab1 impl_EtherOk.bits1 (fun HT_ HW_ => ?_)
   generalize w18.drew = w19 at BK251 HB hHeld ⊢
   refine pure_s (i := 0) (N := some 3) (bs 28 1) (any_of HT_.out (by kernel_rfl)) (h := ?_)
   refine take_ (i := 1) (N := some 4) (v := ?_) (a' := ?_) (bs 28 2) rfl rfl (take_ofW HT_.out HW_.out (by kernel_rfl)) (fun _ _ _ h => h) (Or.inl ⟨by rfl, ?_⟩) hHeld ?_ ?_
   rotate_left
   ·rintro w' ⟨s0, s1, s2, s3, s4⟩
    go_simp
    with_reducible rfl
   rotate_left
   ·simp only [Act.put, List.setIfInBounds_toArray, List.set_cons_zero, List.set_cons_succ, i64_w, i32_w]
    rfl
   refine one_ (i := 2) (N := some 5) (bs 28 3) rfl rfl (one_of HT_.out (by kernel_rfl)) (by decide) (fun K hK => ?_)
   refine goes_ Try.func108 (by kernel_rfl) rfl #[.int .i64 a0_0, .int .i64 0, .int .i64 281474976710655] (by rfl) rfl rfl mt_ ?_
   with_reducible refine (impl_within.calls a0_0 0 281474976710655 true _ A2.out).mono ?_
   rintro e w' ⟨rfl, ⟨nd, rfl⟩⟩
   refine ⟨_, rfl, ?_⟩
   refine hK.out _ _ ⟨bt_ BK251 0, bt_ BK251 1, bt_ BK251 2, bt_ BK251 3, bt_ BK251 4⟩ (fun hHeld => ?_)
   clear hK K
   refine norm_ (a' := ?_) ?_ ?_
   rotate_left
   ·show Act.put _ (some 5) _ = _
    simp only [Act.put, List.setIfInBounds_toArray, List.set_cons_zero, List.set_cons_succ, i64_w, i32_w]
    rfl
   refine pure_s (i := 3) (N := some 6) (bs 28 4) (any_of HT_.out (by kernel_rfl)) (h := ?_)
   refine pure_s (i := 4) (N := some 7) (bs 28 5) (any_of HT_.out (by kernel_rfl)) (h := ?_)
   refine take_ (i := 5) (N := some 8) (v := ?_) (a' := ?_) (bs 28 6) rfl rfl (take_ofW HT_.out HW_.out (by kernel_rfl)) (fun _ _ _ h => h) (Or.inl ⟨by rfl, ?_⟩) hHeld ?_ ?_
   rotate_left
   ·rintro w' ⟨s0, s1, s2, s3, s4⟩
    go_simp
    with_reducible rfl
   rotate_left
   ·simp only [Act.put, List.setIfInBounds_toArray, List.set_cons_zero, List.set_cons_succ, i64_w, i32_w]
    rfl
   refine one_ (i := 6) (N := some 9) (bs 28 7) rfl rfl (one_of HT_.out (by kernel_rfl)) (by decide) (fun K hK => ?_)
   refine goes_ Try.func108 (by kernel_rfl) rfl #[.int .i64 a0_1, .int .i64 0, .int .i64 281474976710655] (by rfl) rfl rfl mt_ ?_
   with_reducible refine (impl_within.calls a0_1 0 281474976710655 false _ A4.out).mono ?_
   rintro e w' ⟨rfl, ⟨nd, rfl⟩⟩
   refine ⟨_, rfl, ?_⟩
   refine hK.out _ _ ⟨bt_ BK251 0, bt_ BK251 1, bt_ BK251 2, bt_ BK251 3, bt_ BK251 4⟩ (fun hHeld => ?_)
   clear hK K
   refine norm_ (a' := ?_) ?_ ?_
   rotate_left
   ·show Act.put _ (some 9) _ = _
    simp only [Act.put, List.setIfInBounds_toArray, List.set_cons_zero, List.set_cons_succ, i64_w, i32_w]
    rfl
   refine pure_s (i := 7) (N := some 10) (bs 28 8) (any_of HT_.out (by kernel_rfl)) (h := ?_)
   refine pure_s (i := 8) (N := some 11) (bs 28 9) (any_of HT_.out (by kernel_rfl)) (h := ?_)
   refine pure_u (i := 9) (N := some 12) (bs 28 10) (any_of HT_.out (by kernel_rfl)) (h := ?_)
   refine pure_u (i := 10) (N := some 13) (bs 28 11) (any_of HT_.out (by kernel_rfl)) (h := ?_)
   refine pure_u (i := 11) (N := some 14) (bs 28 12) (any_of HT_.out (by kernel_rfl)) (h := ?_)
   refine pure_s (i := 12) (N := some 15) (bs 28 13) (any_of HT_.out (by kernel_rfl)) (h := ?_)
   refine pure_s (i := 13) (N := some 16) (bs 28 14) (any_of HT_.out (by kernel_rfl)) (h := ?_)
   refine pure_u (i := 14) (N := some 17) (bs 28 15) (any_of HT_.out (by kernel_rfl)) (h := ?_)
   refine pure_u (i := 15) (N := some 18) (bs 28 16) (any_of HT_.out (by kernel_rfl)) (h := ?_)
   refine pure_u (i := 16) (N := some 19) (bs 28 17) (any_of HT_.out (by kernel_rfl)) (h := ?_)
   refine pure_s (i := 17) (N := some 20) (bs 28 18) (any_of HT_.out (by kernel_rfl)) (h := ?_)
   refine pure_s (i := 18) (N := some 21) (bs 28 19) (any_of HT_.out (by kernel_rfl)) (h := ?_)
   refine pure_u (i := 19) (N := some 22) (bs 28 20) (any_of HT_.out (by kernel_rfl)) (h := ?_)
   refine pure_u (i := 20) (N := some 23) (bs 28 21) (any_of HT_.out (by kernel_rfl)) (h := ?_)
   refine pure_u (i := 21) (N := some 24) (bs 28 22) (any_of HT_.out (by kernel_rfl)) (h := ?_)
   refine pure_u (i := 22) (N := some 25) (bs 28 23) (any_of HT_.out (by kernel_rfl)) (h := ?_)
   refine pure_u (i := 23) (N := some 26) (bs 28 24) (any_of HT_.out (by kernel_rfl)) (h := ?_)
   refine pure_u (i := 24) (N := some 27) (bs 28 25) (any_of HT_.out (by kernel_rfl)) (h := ?_)
   refine pure_u (i := 25) (N := some 28) (bs 28 26) (any_of HT_.out (by kernel_rfl)) (h := ?_)
   refine pure_s (i := 26) (N := some 29) (bs 28 27) (any_of HT_.out (by kernel_rfl)) (h := ?_)
   refine pure_s (i := 27) (N := some 2) (bs 28 28) (any_of HT_.out (by kernel_rfl)) (h := ?_)
   refine done_ (done_of HT_.out (by kernel_rfl)) ?_
   try go_wp2
   go_ret
   exact ⟨by first | rfl | (simp [errW_none, errW_some] <;> rfl) | (simp [*, errW_none, errW_some] <;> rfl), bf_ HB⟩
 ·replace c3 := Bool.eq_false_iff.mpr c3
  subst c3
  have H1 : (some false) = some r := by rw [if_neg (show ¬ (false = true) by decide)] at H; exact H
  clear H
  have H := H1
  clear H1
  obtain rfl := Option.some.inj H
  go_enter Try.func61, Try.ntmps61
  try go_wp2_with (first | ((with_reducible refine gate_dst (N := 1) rfl ?_); (try (refine gate_guard (by rfl) ?_; dsimp only)); refine box_event ?hg (N := 1) ?hd (cs := #[.int .i64 a0_0, .int .i64 a0_1, .int .i64 a0_2, .int .i64 a0_3, .slice A0_4 l0_4.length c0_4]) (t := 32) ?hr ?_; (case hd => rfl); (case hg => rfl); (case hr => first | (go_simp; done) | (go_simp; rfl)); intro gb251 hg w20 hbox hb; have n0_ := Aside0.mk (below_step (be_ HB) hb); have n1_ := Aside0.mk (hbox); have n2_ := gw_ HB hg; have n3_ := gw_ HB hg; clear HB; have HB := n0_; have BK251 := n1_; have GW251 := n2_; have GE251 := n3_; clear n0_ n1_ n2_ n3_; clear hb hbox hg))
  have n0_ := Aside0.mk (blk_drew BK251.out); have n1_ := Aside0.mk (below_drew1 HB.out); clear BK251; clear HB; have BK251 := n0_; have HB := n1_; clear n0_ n1_
  refine start_ (n := 28) (S := fun w' => w'.cell? ⟨gb251, 0, none⟩ = some (.int .i64 a0_0) ∧ w'.cell? ⟨gb251, 1, none⟩ = some (.int .i64 a0_1) ∧ w'.cell? ⟨gb251, 2, none⟩ = some (.int .i64 a0_2) ∧ w'.cell? ⟨gb251, 3, none⟩ = some (.int .i64 a0_3) ∧ w'.cell? ⟨gb251, 4, none⟩ = some (.slice A0_4 l0_4.length c0_4)) (ds := []) (bs 28 0) (by kernel_rfl) rfl rfl ⟨bt_ BK251 0, bt_ BK251 1, bt_ BK251 2, bt_ BK251 3, bt_ BK251 4⟩ (fun hHeld => ?_); refine with_tabW impl_EtherOk.tab1 impl_EtherOk.bits1 (fun HT_ HW_ => ?_)
  generalize w20.drew = w21 at BK251 HB hHeld ⊢
  refine pure_s (i := 0) (N := some 3) (bs 28 1) (any_of HT_.out (by kernel_rfl)) (h := ?_)
  refine take_ (i := 1) (N := some 4) (v := ?_) (a' := ?_) (bs 28 2) rfl rfl (take_ofW HT_.out HW_.out (by kernel_rfl)) (fun _ _ _ h => h) (Or.inl ⟨by rfl, ?_⟩) hHeld ?_ ?_
  rotate_left
  ·rintro w' ⟨s0, s1, s2, s3, s4⟩
   go_simp
   with_reducible rfl
  rotate_left
  ·simp only [Act.put, List.setIfInBounds_toArray, List.set_cons_zero, List.set_cons_succ, i64_w, i32_w]
   rfl
  refine one_ (i := 2) (N := some 5) (bs 28 3) rfl rfl (one_of HT_.out (by kernel_rfl)) (by decide) (fun K hK => ?_)
  refine goes_ Try.func108 (by kernel_rfl) rfl #[.int .i64 a0_0, .int .i64 0, .int .i64 281474976710655] (by rfl) rfl rfl mt_ ?_
  with_reducible refine (impl_within.calls a0_0 0 281474976710655 false _ A2.out).mono ?_
  rintro e w' ⟨rfl, ⟨nd, rfl⟩⟩
  refine ⟨_, rfl, ?_⟩
  refine hK.out _ _ ⟨bt_ BK251 0, bt_ BK251 1, bt_ BK251 2, bt_ BK251 3, bt_ BK251 4⟩ (fun hHeld => ?_)
  clear hK K
  refine norm_ (a' := ?_) ?_ ?_
  rotate_left
  ·show Act.put _ (some 5) _ = _
   simp only [Act.put, List.setIfInBounds_toArray, List.set_cons_zero, List.set_cons_succ, i64_w, i32_w]
   rfl
  refine pure_s (i := 3) (N := some 6) (bs 28 4) (any_of HT_.out (by kernel_rfl)) (h := ?_)
  refine pure_u (i := 4) (N := some 7) (bs 28 5) (any_of HT_.out (by kernel_rfl)) (h := ?_)
  refine pure_u (i := 5) (N := some 8) (bs 28 6) (any_of HT_.out (by kernel_rfl)) (h := ?_)
  refine pure_u (i := 6) (N := some 9) (bs 28 7) (any_of HT_.out (by kernel_rfl)) (h := ?_)
  refine pure_s (i := 7) (N := some 10) (bs 28 8) (any_of HT_.out (by kernel_rfl)) (h := ?_)
  refine pure_s (i := 8) (N := some 11) (bs 28 9) (any_of HT_.out (by kernel_rfl)) (h := ?_)
  refine pure_u (i := 9) (N := some 12) (bs 28 10) (any_of HT_.out (by kernel_rfl)) (h := ?_)
  refine pure_u (i := 10) (N := some 13) (bs 28 11) (any_of HT_.out (by kernel_rfl)) (h := ?_)
  refine pure_u (i := 11) (N := some 14) (bs 28 12) (any_of HT_.out (by kernel_rfl)) (h := ?_)
  refine pure_s (i := 12) (N := some 15) (bs 28 13) (any_of HT_.out (by kernel_rfl)) (h := ?_)
  refine pure_s (i := 13) (N := some 16) (bs 28 14) (any_of HT_.out (by kernel_rfl)) (h := ?_)
  refine pure_u (i := 14) (N := some 17) (bs 28 15) (any_of HT_.out (by kernel_rfl)) (h := ?_)
  refine pure_u (i := 15) (N := some 18) (bs 28 16) (any_of HT_.out (by kernel_rfl)) (h := ?_)
  refine pure_u (i := 16) (N := some 19) (bs 28 17) (any_of HT_.out (by kernel_rfl)) (h := ?_)
  refine pure_s (i := 17) (N := some 20) (bs 28 18) (any_of HT_.out (by kernel_rfl)) (h := ?_)
  refine pure_s (i := 18) (N := some 21) (bs 28 19) (any_of HT_.out (by kernel_rfl)) (h := ?_)
  refine pure_u (i := 19) (N := some 22) (bs 28 20) (any_of HT_.out (by kernel_rfl)) (h := ?_)
  refine pure_u (i := 20) (N := some 23) (bs 28 21) (any_of HT_.out (by kernel_rfl)) (h := ?_)
  refine pure_u (i := 21) (N := some 24) (bs 28 22) (any_of HT_.out (by kernel_rfl)) (h := ?_)
  refine pure_u (i := 22) (N := some 25) (bs 28 23) (any_of HT_.out (by kernel_rfl)) (h := ?_)
  refine pure_u (i := 23) (N := some 26) (bs 28 24) (any_of HT_.out (by kernel_rfl)) (h := ?_)
  refine pure_u (i := 24) (N := some 27) (bs 28 25) (any_of HT_.out (by kernel_rfl)) (h := ?_)
  refine pure_u (i := 25) (N := some 28) (bs 28 26) (any_of HT_.out (by kernel_rfl)) (h := ?_)
  refine pure_s (i := 26) (N := some 29) (bs 28 27) (any_of HT_.out (by kernel_rfl)) (h := ?_)
  refine pure_s (i := 27) (N := some 2) (bs 28 28) (any_of HT_.out (by kernel_rfl)) (h := ?_)
  refine done_ (done_of HT_.out (by kernel_rfl)) ?_
  try go_wp2
  go_ret
  exact ⟨by first | rfl | (simp [errW_none, errW_some] <;> rfl) | (simp [*, errW_none, errW_some] <;> rfl), bf_ HB⟩

-- NOT PRINTED: function 114 (slices_Grow_byte_byte)

def slices_Grow_nil_114.f (a1 : Int) : Option (List Int) := if a1 < 0 then none else if a1 < 140737488355328 then some [] else none
set_option maxHeartbeats 8000000 in
set_option maxRecDepth 100000 in
theorem slices_Grow_nil_114.calls (a1 : Int) (r : List Int) (w : World) (h : slices_Grow_nil_114.f a1 = some r) :
  Calls Try.prog 114 #[.slice none 0 0, .int .i64 a1] w fun e w' => ∃ v0_ : Value, e = .returned (v0_) ∧ Kd.R (Kd.int .u8) 5 w' w.heap.size (fun _ => True) v0_ r ∧ Below w.heap.size w w' := by
 have HB := Aside0.mk (Below.refl w.heap.size w)
 unfold slices_Grow_nil_114.f at h
 by_cases c3 : a1 < 0
 ·rw [if_pos c3] at h
  cases h
 ·rw [if_neg c3] at h
  have c3b0 : decide (a1 < 0) = false := decide_eq_false c3
  by_cases c7 : a1 < 140737488355328
  ·rw [if_pos c7] at h
   obtain rfl := Option.some.inj h
   clear h
   have hw1 : wrap64 (a1 - wrap64 0) = a1 := by unfold wrap64; omega
   have hw2 : wrap64 a1 = a1 := by unfold wrap64; omega
   have hw3 : IntKind.i64.wrap a1 = a1 := (i64_w _).trans hw2
   have hw4 : wrap64 (a1 - 0) = a1 := by unfold wrap64; omega
   have hw5 : wrap64 0 = 0 := by unfold wrap64; omega
   have hw6 : IntKind.i64.wrap 0 = 0 := (i64_w _).trans hw5
   by_cases c4 : a1 > 0
   ·have c4b0 : decide (0 < a1) = true := decide_eq_true c4
    have c4b1 : decide (0 ≤ a1) = true := decide_eq_true (by omega)
    have LM := Aside0.mk c7
    have LP := Aside0.mk c4
    clear c3 c4 c7
    go_enter Try.func114, Try.ntmps114
    go_wp2_with (first | (at_builtin; refine Kd.R_append_zeros (Kd.int .u8) (w0 := w) w.heap.size rfl (.tmp 20) (.tmp 21) 22 3 5 (.int .u8 0) 1 rfl Try.underlying22 Try.underlying3 info5 rfl (by decide) (by omega) (.slice none 0 0) ([] : List Int) 0 (a1 : Int) (fun _ => True) rfl rfl rfl ?aF ?aO (of_decide_eq_true (by first | (with_reducible assumption) | assumption)) ?aB ?aS ?aL ?_; (case aB => exact (be_ HB)); (case aF => exact (fun _ _ => trivial)); (case aO => exact ((Kd.R_nil _ _ _ _ (fun _ => True)))); (case aS => exact (below_size (be_ HB))); (case aL => have := LM.out; have := LP.out; simp only [List.length_nil]; omega); intro v102 w8 ho hb hg hat; have n0_ := Aside0.mk (hb); have n1_ := Aside0.mk (ho); clear HB; have HB := n0_; have HO103 := n1_; clear n0_ n1_; clear ho hb hg hat; obtain ⟨Ao, co, eo⟩ := Kd.R_slice HO103.out; subst eo))
    go_ret
    exact ⟨_, by first | rfl | (simp [errW_none, errW_some] <;> rfl) | (simp [*, errW_none, errW_some] <;> rfl), by have := Kd.R_take (m := 0) HO103.out (Nat.zero_le _); (with_reducible repeat (first | apply Kd.R_alloc | apply Kd.R_drewN | apply Kd.R_drew)); exact this, be_ HB⟩
   ·have c4b0 : decide (0 < a1) = false := decide_eq_false c4
    clear c3 c4 c7
    go_enter Try.func114, Try.ntmps114
    go_wp2
    go_ret
    exact ⟨_, by first | rfl | (simp [errW_none, errW_some] <;> rfl) | (simp [*, errW_none, errW_some] <;> rfl), by first | exact Kd.R_nil _ _ _ _ _ | exact Kd.N_nil _ _ _ _ _, be_ HB⟩
  ·rw [if_neg c7] at h
   cases h

/-! ### slices_Concat_byte_byte: function 62 -/
mutual
def slices_Concat_byte_byte.l0 : Nat → List (List Int) → Int → List (List Int) → Int → Int → Option (List Int)
  | 0, _, _, _, _, _ => none
  | k + 1, x0, x3, x9, x10, x11 => if x11 < x10 then (if 0 ≤ x11 then (if x11 < (x9.length : Int) then (if (wrap64 (x3 + ((rd_L2 x9 x11).length : Int))) < 0 then (none) else (slices_Concat_byte_byte.l0 k x0 (wrap64 (x3 + ((rd_L2 x9 x11).length : Int))) x9 x10 (wrap64 (x11 + 1)))) else (none)) else (none)) else ((slices_Grow_nil_114.f x3).bind fun t258 => (slices_Concat_byte_byte.l1 k t258 x0 (x0.length : Int) 0))
def slices_Concat_byte_byte.l1 : Nat → List Int → List (List Int) → Int → Int → Option (List Int)
  | 0, _, _, _, _ => none
  | k + 1, x6, x25, x26, x27 => if x27 < x26 then (if 0 ≤ x27 then (if x27 < (x25.length : Int) then (if x6.length + (rd_L2 x25 x27).length < 140737488355328 then (slices_Concat_byte_byte.l1 k (x6 ++ (rd_L2 x25 x27)) x25 x26 (wrap64 (x27 + 1))) else (none)) else (none)) else (none)) else (some x6)
end
def slices_Concat_byte_byte.f (k : Nat) (l0 : List (List Int)) : Option (List Int) := slices_Concat_byte_byte.l0 k l0 0 l0 (l0.length : Int) 0
theorem slices_Concat_byte_byte.mono_l : ∀ k, (∀ y0 y1 y2 y3 y4, LeO (slices_Concat_byte_byte.l0 k y0 y1 y2 y3 y4) (slices_Concat_byte_byte.l0 (k + 1) y0 y1 y2 y3 y4)) ∧ (∀ y0 y1 y2 y3, LeO (slices_Concat_byte_byte.l1 k y0 y1 y2 y3) (slices_Concat_byte_byte.l1 (k + 1) y0 y1 y2 y3))
 | 0 => ⟨fun _ _ _ _ _ r h => by simp [slices_Concat_byte_byte.l0] at h, fun _ _ _ _ r h => by simp [slices_Concat_byte_byte.l1] at h⟩
 | k + 1 => by
  obtain ⟨ih0, ih1⟩ := slices_Concat_byte_byte.mono_l k
  refine ⟨?_, ?_⟩
  ·intro y0 y1 y2 y3 y4
   unfold slices_Concat_byte_byte.l0
   repeat' first
   | (with_reducible exact ih0 _ _ _ _ _)
   | (with_reducible exact ih1 _ _ _ _)
   | (with_reducible exact LeO.refl _)
   | (with_reducible exact LeO.none _)
   | (with_reducible refine LeO.ite ?_ ?_)
   | (with_reducible refine LeO.bind ?_ (fun _ => ?_))
   | exact ih0 _ _ _ _ _
   | exact ih1 _ _ _ _
   | exact LeO.none _
   | refine LeO.ite ?_ ?_
   | refine LeO.bind ?_ (fun _ => ?_)
  ·intro y0 y1 y2 y3
   unfold slices_Concat_byte_byte.l1
   repeat' first
   | (with_reducible exact ih0 _ _ _ _ _)
   | (with_reducible exact ih1 _ _ _ _)
   | (with_reducible exact LeO.refl _)
   | (with_reducible exact LeO.none _)
   | (with_reducible refine LeO.ite ?_ ?_)
   | (with_reducible refine LeO.bind ?_ (fun _ => ?_))
   | exact ih0 _ _ _ _ _
   | exact ih1 _ _ _ _
   | exact LeO.none _
   | refine LeO.ite ?_ ?_
   | refine LeO.bind ?_ (fun _ => ?_)
theorem slices_Concat_byte_byte.mono : ∀ a0 k, LeO (slices_Concat_byte_byte.f k a0) (slices_Concat_byte_byte.f (k + 1) a0) := by
 intro a0 k
 obtain ⟨ih0, ih1⟩ := slices_Concat_byte_byte.mono_l k
 unfold slices_Concat_byte_byte.f
 repeat' first
   | (with_reducible exact ih0 _ _ _ _ _)
   | (with_reducible exact ih1 _ _ _ _)
   | (with_reducible exact LeO.refl _)
   | (with_reducible exact LeO.none _)
   | (with_reducible refine LeO.ite ?_ ?_)
   | (with_reducible refine LeO.bind ?_ (fun _ => ?_))
   | exact ih0 _ _ _ _ _
   | exact ih1 _ _ _ _
   | exact LeO.none _
   | refine LeO.ite ?_ ?_
   | refine LeO.bind ?_ (fun _ => ?_)
set_option maxHeartbeats 8000000 in
set_option maxRecDepth 100000 in
theorem slices_Concat_byte_byte.calls (k : Nat) (A0 : Option Addr) (c0 : Nat) (l0 : List (List Int)) (r : List Int) (w : World) (hr0 : Kd.C (Kd.slice 5 (Kd.int .u8)) w A0 l0.length l0) (hc0 : l0.length ≤ c0) (h : slices_Concat_byte_byte.f k l0 = some r) :
  Calls Try.prog 62 #[.slice A0 l0.length c0] w fun e w' => ∃ v0_ : Value, e = .returned (v0_) ∧ Kd.R (Kd.int .u8) 5 w' w.heap.size (fun _ => True) v0_ r ∧ Below w.heap.size w w' := by
 have HR0 := Aside0.mk hr0
 have HC0 := Aside0.mk hc0
 clear hr0 hc0; have HB := Aside0.mk (Below.refl w.heap.size w)
 have H : (slices_Concat_byte_byte.l0 k l0 0 l0 (l0.length : Int) 0) = some r := h
 clear h
 have H' := Aside0.mk H
 clear H
 go_enter Try.func62, Try.ntmps62
 go_wp2
 go_loopg [3, 11] k (fun kq v3 v11 w' => ∃ (x3_1 : Int) (x11_1 : Int), v3 = .int .i64 x3_1 ∧ v11 = .int .i64 x11_1 ∧ Aside0 (slices_Concat_byte_byte.l0 kq l0 x3_1 l0 (l0.length : Int) x11_1 = some r) ∧ Aside0 (kq ≤ k) ∧ Aside0 (Below w.heap.size w w'))
 case atStart => exact ⟨(0), (0), (by first | rfl | (simp; done) | (simp [*]; done)), (by first | rfl | (simp; done) | (simp [*]; done)), H', ⟨Nat.le_refl _⟩, ⟨be_ HB⟩⟩
 case round =>
  clear H'
  obtain ⟨x3_1, x11_1, rfl, rfl, HA, HK1, HB⟩ := hrel
  cases gk with
  | zero => exact absurd HA.out (by simp [slices_Concat_byte_byte.l0])
  | succ k1 =>
   have H := HA.out
   clear HA
   simp only [slices_Concat_byte_byte.l0] at H
   by_cases c2 : x11_1 < (l0.length : Int)
   ·rw [if_pos c2] at H
    have c2b0 : decide (x11_1 < (l0.length : Int)) = true := decide_eq_true c2
    clear c2
    by_cases c3 : 0 ≤ x11_1
    ·rw [if_pos c3] at H
     have c3b0 : decide (0 ≤ x11_1) = true := decide_eq_true c3
     clear c3
     by_cases c4 : x11_1 < (l0.length : Int)
     ·rw [if_pos c4] at H
      have c4b0 : decide (x11_1 < (l0.length : Int)) = true := decide_eq_true c4
      clear c4
      by_cases c5 : (wrap64 (x3_1 + ((rd_L2 l0 x11_1).length : Int))) < 0
      ·rw [if_pos c5] at H
       exact absurd H (by simp)
      ·rw [if_neg c5] at H
       have c5b0 : decide ((wrap64 (x3_1 + ((rd_L2 l0 x11_1).length : Int))) < 0) = false := decide_eq_false c5
       clear c5
       have H' := Aside0.mk H
       clear H
       have p257 : 0 ≤ (x11_1 : Int) := of_decide_eq_true (by first | (with_reducible assumption) | assumption)
       have q257 : x11_1 < (l0.length : Int) := of_decide_eq_true (by first | (with_reducible assumption) | assumption)
       obtain ⟨ad257, A257_0, c257_0, e257, hx257_0, hl257_0, hi257_0⟩ := at_L2 HR0.out x11_1 p257 q257
       cases e257
       replace hx257_0 := (HB.out.cell (World.block_lt_of_cell? w _ hx257_0)).trans hx257_0
       have HR257_0 := Aside0.mk hi257_0
       have HC257_0 := Aside0.mk hl257_0
       clear hi257_0 hl257_0
       replace p257 := eq_true p257
       replace q257 := eq_true q257
       go_wp2
       go_roundg k1
       case measure => have := HK1.out; omega
       case rel => exact ⟨(wrap64 (x3_1 + ((rd_L2 l0 x11_1).length : Int))), (wrap64 (x11_1 + 1)), (by first | rfl | (simp; done) | (simp [*]; done)), (by first | rfl | (simp; done) | (simp [*]; done)), H', ⟨by have := HK1.out; omega⟩, ⟨be_ HB⟩⟩
     ·rw [if_neg c4] at H
      exact absurd H (by simp)
    ·rw [if_neg c3] at H
     exact absurd H (by simp)
   ·rw [if_neg c2] at H
    have c2b0 : decide (x11_1 < (l0.length : Int)) = false := decide_eq_false c2
    clear c2
    replace H := Option.bind_eq_some_iff.mp H
    obtain ⟨t258, A60, H⟩ := H
    replace H : (slices_Concat_byte_byte.l1 k1 t258 l0 (l0.length : Int) 0) = some r := H
    have A6 := Aside0.mk A60
    clear A60
    have H' := Aside0.mk H
    clear H
    go_wp2_with (first | ((with_reducible refine gate_callee (f := 114) rfl ?_); refine goesL_ (some 24) rfl rfl Try.func114 (by kernel_rfl) rfl #[.slice none 0 0, .int .i64 x3_1] rfl mt_ ?_; (with_reducible refine (slices_Grow_nil_114.calls x3_1 t258 _ A6.out).mono ?_); rintro e w7 ⟨v259, rfl, ho0, hb⟩; refine ⟨_, rfl, ?_⟩; have n0_ := Aside0.mk (Kd.R_lower ho0 (below_size (be_ HB))); have n1_ := Aside0.mk (below_step (be_ HB) hb); clear HB; have HO260 := n0_; have HB := n1_; clear n0_ n1_; (try clear hb); (try clear hb2); (try clear hk); (try clear hi); (try clear ho0)))
    go_loopg [6, 27] k1 (fun kq v6 v27 w' => ∃ (x6_2 : List Int) (x27_2 : Int), v27 = .int .i64 x27_2 ∧ Aside0 (slices_Concat_byte_byte.l1 kq x6_2 l0 (l0.length : Int) x27_2 = some r) ∧ Aside0 (kq ≤ k1) ∧ Aside0 (Kd.R (Kd.int .u8) 5 w' w.heap.size (fun _ => True) v6 x6_2) ∧ Aside0 (Below w.heap.size w w'))
    case atStart => exact ⟨(t258), (0), (by first | rfl | (simp; done) | (simp [*]; done)), H', ⟨Nat.le_refl _⟩, ⟨kr_ HO260⟩, ⟨be_ HB⟩⟩
    case round =>
     clear H'
     (try clear c1); (try clear c2); (try clear c2b0); (try clear p2); (try clear q2); (try clear hx2); (try clear c3); (try clear c3b0); (try clear c4); (try clear c4b0); (try clear c5); (try clear c5b0); (try clear c6); (try clear p6); (try clear hx257_0); (try clear p257); (try clear q257)
     obtain ⟨x6_2, x27_2, rfl, HA, HK2, HO_6, HB⟩ := hrel
     cases gk with
     | zero => exact absurd HA.out (by simp [slices_Concat_byte_byte.l1])
     | succ k2 =>
      have H := HA.out
      clear HA
      simp only [slices_Concat_byte_byte.l1] at H
      by_cases c8 : x27_2 < (l0.length : Int)
      ·rw [if_pos c8] at H
       have c8b0 : decide (x27_2 < (l0.length : Int)) = true := decide_eq_true c8
       clear c8
       by_cases c9 : 0 ≤ x27_2
       ·rw [if_pos c9] at H
        have c9b0 : decide (0 ≤ x27_2) = true := decide_eq_true c9
        clear c9
        by_cases c10 : x27_2 < (l0.length : Int)
        ·rw [if_pos c10] at H
         have c10b0 : decide (x27_2 < (l0.length : Int)) = true := decide_eq_true c10
         clear c10
         by_cases c11 : x6_2.length + (rd_L2 l0 x27_2).length < 140737488355328
         ·rw [if_pos c11] at H
          have LMc11 := Aside0.mk c11
          clear c11
          obtain ⟨y262, hy262⟩ : ∃ y_ : List Int, y_ = (x6_2 ++ (rd_L2 l0 x27_2)) := ⟨_, rfl⟩
          replace H : (slices_Concat_byte_byte.l1 k2 y262 l0 (l0.length : Int) (wrap64 (x27_2 + 1))) = some r := by first | (rw [hy262]; with_reducible exact H) | (have H2_ := (Option.bind_some _ _).symm.trans H; rw [hy262]; with_reducible exact H2_) | (have H2_ := (Option.bind_some _ _).symm.trans H; with_reducible exact H2_) | with_reducible exact H | (rw [hy262]; exact H) | exact H
          have Ny262 := Aside0.mk hy262
          clear hy262
          have H' := Aside0.mk H
          clear H
          have p261 : 0 ≤ (x27_2 : Int) := of_decide_eq_true (by first | (with_reducible assumption) | assumption)
          have q261 : x27_2 < (l0.length : Int) := of_decide_eq_true (by first | (with_reducible assumption) | assumption)
          obtain ⟨ad261, A261_0, c261_0, e261, hx261_0, hl261_0, hi261_0⟩ := at_L2 HR0.out x27_2 p261 q261
          cases e261
          replace hx261_0 := (HB.out.cell (World.block_lt_of_cell? w _ hx261_0)).trans hx261_0
          have HR261_0 := Aside0.mk hi261_0
          have HC261_0 := Aside0.mk hl261_0
          clear hi261_0 hl261_0
          replace p261 := eq_true p261
          replace q261 := eq_true q261
          go_wp2_with (first | ((with_reducible refine gate_builtin (b := .append) (xs := #[.tmp 31, .tmp 32]) rfl ?_); at_builtin; refine Kd.R_append_rows (Kd.int .u8) (w0 := w) w.heap.size rfl (.tmp 31) (.tmp 32) 22 5 (.int .u8 0) 1 rfl Try.underlying22 info5 rfl (by decide) (by omega) u6 x6_2 (rd_L2 l0 x27_2) _ _ _ (fun _ => True) (fun _ => False) rfl rfl ?aO ?aR (fun _ _ h => h) (fun _ h => h.elim) ?aF ?aB ?aS ?aL ?_; (case aR => repeat (first | exact (Kd.C_below HR261_0.out HB.out) | (with_reducible refine Kd.C_alloc ?_ _) | (with_reducible refine Kd.C_drewN ?_ _) | (with_reducible refine Kd.C_drew ?_))); (case aB => exact (be_ HB)); (case aF => exact (fun _ _ => trivial)); (case aO => exact (kr_ HO_6)); (case aS => exact (below_size (be_ HB))); (case aL => have := LMc11.out; omega); intro v263 w12 ho hb hg hat; rw [← Ny262.out] at ho; have n0_ := Aside0.mk (hb); have n1_ := Aside0.mk (ho); clear HB; clear HO_6; have HB := n0_; have HO264 := n1_; clear n0_ n1_; clear ho hb hg hat))
          go_roundg k2
          case measure => have := HK1.out; have := HK2.out; omega
          case rel => exact ⟨(y262), (wrap64 (x27_2 + 1)), (by first | rfl | (simp; done) | (simp [*]; done)), H', ⟨by have := HK1.out; have := HK2.out; omega⟩, ⟨kr_ HO264⟩, ⟨be_ HB⟩⟩
         ·rw [if_neg c11] at H
          exact absurd H (by simp)
        ·rw [if_neg c10] at H
         exact absurd H (by simp)
       ·rw [if_neg c9] at H
        exact absurd H (by simp)
      ·rw [if_neg c8] at H
       have c8b0 : decide (x27_2 < (l0.length : Int)) = false := decide_eq_false c8
       clear c8
       obtain rfl := Option.some.inj H
       go_wp2
       go_ret
       exact ⟨_, by first | rfl | (simp [errW_none, errW_some] <;> rfl) | (simp [*, errW_none, errW_some] <;> rfl), by (with_reducible repeat (first | apply Kd.R_alloc | apply Kd.R_drewN | apply Kd.R_drew)); exact HO_6.out, be_ HB⟩

end Go.Proofs.Ytpoiljfjddehcaa.PFnEtherBack
