-- printed by a program of this session (wip/printx) out of the translation; Lean checks it
import Derived.Test.YtpoiljfjddehcaaPFnEtherBackx0
import Derived.Test.YtpoiljfjddehcaaPFnEtherBackx1
import Derived.Test.YtpoiljfjddehcaaPFnEtherBackx3
import Derived.Test.YtpoiljfjddehcaaPFnEtherBackx5
namespace Go.Proofs.Ytpoiljfjddehcaa.PFnEtherBack
open Go.RowKit Go.Proofs.YtpoiljfjddehcaaW.PrintWords Go.Proofs.YtpoiljfjddehcaaW.PrintLast Go.Proofs.YtpoiljfjddehcaaW.PrintMore
attribute [local go_sem] max2_int min2_int max_two min_two max_three min_three max_four min_four   -- for this text's walks alone
set_option linter.unusedVariables false
set_option linter.unusedSimpArgs false

/-! ### slices_Clone_byte_byte: function 67 -/
def slices_Clone_byte_byte.f (l0 : List Int) : Option (List Int) := (some (([] : List Int) : List Int)).bind fun y306 => (if y306.length + l0.length < 140737488355328 then (some (y306 ++ l0)) else (none))
set_option maxHeartbeats 8000000 in
set_option maxRecDepth 100000 in
theorem slices_Clone_byte_byte.calls_some (A0 : Addr) (c0 : Nat) (l0 : List Int) (r : List Int) (w : World) (hr0 : Kd.C (Kd.int .u8) w (some A0) l0.length l0) (hc0 : l0.length ≤ c0) (h : slices_Clone_byte_byte.f l0 = some r) :
  Calls Try.prog 67 #[.slice (some A0) l0.length c0] w fun e w' => ∃ v0_ : Value, e = .returned (v0_) ∧ Kd.R (Kd.int .u8) 5 w' w.heap.size (fun _ => True) v0_ r ∧ Below w.heap.size w w' := by
 have hnil0_ := fun (W : World) (n c : Nat) => Lib.run_eql_slice_nil (P := Try.prog) W 22 5 (some A0) n c 0 0 Try.underlying22
 have HR0 := Aside0.mk hr0
 have HC0 := Aside0.mk hc0
 clear hr0 hc0; have HB := Aside0.mk (Below.refl w.heap.size w)
 have H : ((some (([] : List Int) : List Int)).bind fun y306 => (if y306.length + l0.length < 140737488355328 then (some (y306 ++ l0)) else (none))) = some r := h
 clear h
 obtain ⟨y306, hy306⟩ : ∃ y_ : List Int, y_ = (([] : List Int)) := ⟨_, rfl⟩
 replace H : (if y306.length + l0.length < 140737488355328 then (some (y306 ++ l0)) else (none)) = some r := by first | (rw [hy306]; with_reducible exact H) | (have H2_ := (Option.bind_some _ _).symm.trans H; rw [hy306]; with_reducible exact H2_) | (have H2_ := (Option.bind_some _ _).symm.trans H; with_reducible exact H2_) | with_reducible exact H | (rw [hy306]; exact H) | exact H
 have Ny306 := Aside0.mk hy306
 clear hy306
 by_cases c2 : y306.length + l0.length < 140737488355328
 ·rw [if_pos c2] at H
  have LMc2 := Aside0.mk c2
  clear c2
  obtain ⟨y309, hy309⟩ : ∃ y_ : List Int, y_ = (y306 ++ l0) := ⟨_, rfl⟩
  replace H : (some y309) = some r := by first | (rw [hy309]; with_reducible exact H) | (have H2_ := (Option.bind_some _ _).symm.trans H; rw [hy309]; with_reducible exact H2_) | (have H2_ := (Option.bind_some _ _).symm.trans H; with_reducible exact H2_) | with_reducible exact H | (rw [hy309]; exact H) | exact H
  have Ny309 := Aside0.mk hy309
  clear hy309
  obtain rfl := Option.some.inj H
  go_enter Try.func67, Try.ntmps67
  go_wp2_with (first | ((with_reducible refine gate_dst (N := 5) rfl ?_); refine Kd.R_lit (Kd.int .u8) _ 5 ?hg (N := 5) ?hd (xs := ([] : List Int)) (inner := []) (ok := fun _ => True) (okp := fun _ => True) ?hr ?hp (fun _ hk => by first | exact hk | grind) trivial (Below.refl _ _) (Nat.le_refl _) (by simp) ?_; (case hd => rfl); (case hg => rfl); (case hr => first | (go_simp; done) | (go_simp; rfl)); (case hp => exact (Reps.none _ _)); intro v307 w3 ho4 hb hg_ hnew_; clear hg_ hnew_; (first | rw [← Ny306.out] at ho4 | (simp only [Int.reduceToNat] at ho4; rw [← Ny306.out] at ho4)); have n0_ := Aside0.mk (Kd.R_lower ho4 (below_size (be_ HB))); have n1_ := Aside0.mk (below_step (be_ HB) hb); clear HB; have HO308 := n0_; have HB := n1_; clear n0_ n1_; clear hb ho4) | ((with_reducible refine gate_builtin (b := .append) (xs := #[.tmp 5, .tmp 6]) rfl ?_); at_builtin; refine Kd.R_append_rows (Kd.int .u8) (w0 := w) w.heap.size rfl (.tmp 5) (.tmp 6) 22 5 (.int .u8 0) 1 rfl Try.underlying22 info5 rfl (by decide) (by omega) v307 y306 l0 _ _ _ (fun _ => True) (fun _ => False) rfl rfl ?aO ?aR (fun _ _ h => h) (fun _ h => h.elim) ?aF ?aB ?aS ?aL ?_; (case aR => repeat (first | exact (Kd.C_below HR0.out HB.out) | (with_reducible refine Kd.C_alloc ?_ _) | (with_reducible refine Kd.C_drewN ?_ _) | (with_reducible refine Kd.C_drew ?_))); (case aB => exact (be_ HB)); (case aF => exact (fun _ _ => trivial)); (case aO => exact (kr_ HO308)); (case aS => exact (below_size (be_ HB))); (case aL => have := LMc2.out; omega); intro v310 w5 ho hb hg hat; rw [← Ny309.out] at ho; have n0_ := Aside0.mk (hb); have n1_ := Aside0.mk (ho); clear HB; clear HO308; have HB := n0_; have HO311 := n1_; clear n0_ n1_; clear ho hb hg hat))
  go_ret
  exact ⟨_, by first | rfl | (simp [errW_none, errW_some] <;> rfl) | (simp [*, errW_none, errW_some] <;> rfl), by (with_reducible repeat (first | apply Kd.R_alloc | apply Kd.R_drewN | apply Kd.R_drew)); exact HO311.out, be_ HB⟩
 ·rw [if_neg c2] at H
  exact absurd H (by simp)
set_option maxHeartbeats 8000000 in
set_option maxRecDepth 100000 in
theorem slices_Clone_byte_byte.calls (A0 : Option Addr) (c0 : Nat) (l0 : List Int) (r : List Int) (w : World) (hr0 : Kd.C (Kd.int .u8) w A0 l0.length l0) (hc0 : l0.length ≤ c0) (h : slices_Clone_byte_byte.f l0 = some r) :
  Calls Try.prog 67 #[.slice A0 l0.length c0] w fun e w' => ∃ v0_ : Value, e = .returned (v0_) ∧ Kd.R (Kd.int .u8) 5 w' w.heap.size (fun _ => True) v0_ r ∧ Below w.heap.size w w' := by
  cases A0 with
  | some a_ => exact slices_Clone_byte_byte.calls_some a_ c0 l0 r w hr0 hc0 h
  | none =>
    obtain rfl : l0 = [] := by
      rcases l0 with _ | ⟨x_, t_⟩
      · rfl
      · obtain ⟨ad_, h0_, _⟩ := hr0.2.2 (by simp)
        cases h0_
    obtain rfl : r = [] := by simpa [slices_Clone_byte_byte.f] using h.symm
    have hnil0_ := fun (W : World) (n c : Nat) => Lib.run_eql_slice_nil (P := Try.prog) W 22 5 none n c 0 0 Try.underlying22
    clear hr0 hc0 h
    go_enter Try.func67, Try.ntmps67
    go_wp2
    go_ret
    exact ⟨_, rfl, Kd.R_nil _ _ _ _ _, Below.refl _ _⟩

/-! ### impl_EtherRead: function 16 -/
def impl_EtherRead.j0 : Nat → List Int → Int → Int → Int → Int → Option (Int × Int × Int × Int × List Int × Int)
  | 0, _, _, _, _, _ => none
  | k + 1, x0, x320000, x320001, x320002, x320003 => (impl_isKind.f x320003).bind fun t324 => (if t324 = true then ((impl_headOf.f x320000 x320001 x320002 x320003 ([] : List Int)).bind fun t325 => (if 0 ≤ t325 then (if t325 ≤ (x0.length : Int) then ((slices_Clone_byte_byte.f (x0.drop (t325 : Int).toNat)).bind fun t327 => (some (x320000, x320001, x320002, x320003, t327, 0))) else (none)) else (none))) else (some (0, 0, 0, 0, ([] : List Int), 4)))
def impl_EtherRead.f (k : Nat) (l0 : List Int) : Option (Int × Int × Int × Int × List Int × Int) := if (l0.length : Int) > 1600 then (some (0, 0, 0, 0, ([] : List Int), 1)) else (if (l0.length : Int) < 14 then (some (0, 0, 0, 0, ([] : List Int), 2)) else (if 6 ≤ (l0.length : Int) then ((impl_beOf.f k (l0.take 6)).bind fun t314 => (if 6 ≤ 12 then (if 12 ≤ (l0.length : Int) then ((impl_beOf.f k ((l0.take 12).drop 6)).bind fun t316 => (if 12 ≤ 14 then (if 14 ≤ (l0.length : Int) then ((impl_beOf.f k ((l0.take 14).drop 12)).bind fun t318 => (if t318 = 33024 then (if (l0.length : Int) < 18 then (some (0, 0, 0, 0, ([] : List Int), 3)) else (if 14 ≤ 16 then (if 16 ≤ (l0.length : Int) then ((impl_beOf.f k ((l0.take 16).drop 14)).bind fun t321 => (if 16 ≤ 18 then (if 18 ≤ (l0.length : Int) then ((impl_beOf.f k ((l0.take 18).drop 16)).bind fun t323 => (impl_EtherRead.j0 k l0 t314 t316 t321 t323)) else (none)) else (none))) else (none)) else (none))) else (impl_EtherRead.j0 k l0 t314 t316 (-1) t318))) else (none)) else (none))) else (none)) else (none))) else (none)))
theorem impl_EtherRead.mono_l : ∀ k, (∀ y0 y1 y2 y3 y4, LeO (impl_EtherRead.j0 k y0 y1 y2 y3 y4) (impl_EtherRead.j0 (k + 1) y0 y1 y2 y3 y4))
 | 0 => fun _ _ _ _ _ r h => by simp [impl_EtherRead.j0] at h
 | k + 1 => by
  have ih0 := impl_EtherRead.mono_l k
  ·intro y0 y1 y2 y3 y4
   unfold impl_EtherRead.j0
   repeat' first
   | (with_reducible exact ih0 _ _ _ _ _)
   | (with_reducible exact impl_beOf.mono _ _)
   | (with_reducible exact LeO.refl _)
   | (with_reducible exact LeO.none _)
   | (with_reducible refine LeO.ite ?_ ?_)
   | (with_reducible refine LeO.bind ?_ (fun _ => ?_))
   | exact ih0 _ _ _ _ _
   | exact impl_beOf.mono _ _
   | exact LeO.none _
   | refine LeO.ite ?_ ?_
   | refine LeO.bind ?_ (fun _ => ?_)
theorem impl_EtherRead.mono : ∀ a0 k, LeO (impl_EtherRead.f k a0) (impl_EtherRead.f (k + 1) a0) := by
 intro a0 k
 have ih0 := impl_EtherRead.mono_l k
 unfold impl_EtherRead.f
 repeat' first
   | (with_reducible exact ih0 _ _ _ _ _)
   | (with_reducible exact impl_beOf.mono _ _)
   | (with_reducible exact LeO.refl _)
   | (with_reducible exact LeO.none _)
   | (with_reducible refine LeO.ite ?_ ?_)
   | (with_reducible refine LeO.bind ?_ (fun _ => ?_))
   | exact ih0 _ _ _ _ _
   | exact impl_beOf.mono _ _
   | exact LeO.none _
   | refine LeO.ite ?_ ?_
   | refine LeO.bind ?_ (fun _ => ?_)
def impl_EtherRead.T5 : Bool × List (List Nat × List Nat) := (true, [([], []), ([0], [0]), ([1], [1]), ([], []), ([3], [3]), ([4, 2], [4]), ([], []), ([6], [6]), ([7, 5], [7]), ([2, 5, 8], [2, 5, 8]), ([], []), ([10, 9, 8, 0, 1, 2, 3, 4, 5, 6, 7, 8, 9, 10], [9, 10])])
def impl_EtherRead.B5 : List Nat := [0, 1, 3, 0, 8, 31, 0, 64, 255, 511, 0, 2047]
theorem impl_EtherRead.tab5 : rtab .any (opsOf Try.f16 5) = impl_EtherRead.T5 := by kernel_rfl
theorem impl_EtherRead.bits5 : waitsOk impl_EtherRead.T5.2 impl_EtherRead.B5 = true := by kernel_rfl
def impl_EtherRead.T9 : Bool × List (List Nat × List Nat) := (true, [([], []), ([0], [0]), ([1], [1]), ([], []), ([3], [3]), ([4, 2], [4]), ([0, 1, 2], []), ([6, 2, 5, 0, 1, 2], [2, 6]), ([0, 1, 2, 3, 4, 5, 6, 7], []), ([8, 5, 7, 0, 1, 2, 3, 4, 5, 6, 7], [5, 8])])
def impl_EtherRead.B9 : List Nat := [0, 1, 3, 0, 8, 31, 7, 127, 255, 511]
theorem impl_EtherRead.tab9 : rtab .any (opsOf Try.f16 9) = impl_EtherRead.T9 := by kernel_rfl
theorem impl_EtherRead.bits9 : waitsOk impl_EtherRead.T9.2 impl_EtherRead.B9 = true := by kernel_rfl
set_option maxHeartbeats 8000000 in
set_option maxRecDepth 100000 in
theorem impl_EtherRead.calls (k : Nat) (A0 : Option Addr) (c0 : Nat) (l0 : List Int) (r1 : Int) (r2 : Int) (r3 : Int) (r4 : Int) (r5 : List Int) (r6 : Int) (w : World) (hr0 : Kd.C (Kd.int .u8) w A0 l0.length l0) (hc0 : l0.length ≤ c0) (h : impl_EtherRead.f k l0 = some (r1, r2, r3, r4, r5, r6)) :
  Calls Try.prog 16 #[.slice A0 l0.length c0] w fun e w' => ∃ v4_ : Value, e = .returned (.tuple #[.agg #[.int .i64 r1, .int .i64 r2, .int .i64 r3, .int .i64 r4, v4_], .int .i64 r6]) ∧ Kd.R (Kd.int .u8) 5 w' w.heap.size (fun _ => True) v4_ r5 ∧ Below w.heap.size w w' := by
 have hu32 := Try.underlying32
 have HR0 := Aside0.mk hr0
 have HC0 := Aside0.mk hc0
 clear hr0 hc0; have HB := Aside0.mk (Below.refl w.heap.size w)
 have H : (if (l0.length : Int) > 1600 then (some (0, 0, 0, 0, ([] : List Int), 1)) else (if (l0.length : Int) < 14 then (some (0, 0, 0, 0, ([] : List Int), 2)) else (if 6 ≤ (l0.length : Int) then ((impl_beOf.f k (l0.take 6)).bind fun t314 => (if 6 ≤ 12 then (if 12 ≤ (l0.length : Int) then ((impl_beOf.f k ((l0.take 12).drop 6)).bind fun t316 => (if 12 ≤ 14 then (if 14 ≤ (l0.length : Int) then ((impl_beOf.f k ((l0.take 14).drop 12)).bind fun t318 => (if t318 = 33024 then (if (l0.length : Int) < 18 then (some (0, 0, 0, 0, ([] : List Int), 3)) else (if 14 ≤ 16 then (if 16 ≤ (l0.length : Int) then ((impl_beOf.f k ((l0.take 16).drop 14)).bind fun t321 => (if 16 ≤ 18 then (if 18 ≤ (l0.length : Int) then ((impl_beOf.f k ((l0.take 18).drop 16)).bind fun t323 => (impl_EtherRead.j0 k l0 t314 t316 t321 t323)) else (none)) else (none))) else (none)) else (none))) else (impl_EtherRead.j0 k l0 t314 t316 (-1) t318))) else (none)) else (none))) else (none)) else (none))) else (none)))) = some (r1, r2, r3, r4, r5, r6) := h
 clear h
 by_cases c2 : (l0.length : Int) > 1600
 ·rw [if_pos c2] at H
  have c2b0 : decide (1600 < (l0.length : Int)) = true := decide_eq_true c2
  have c2b1 : decide (1600 < l0.length) = true := decide_eq_true (by omega)
  clear c2
  simp only [Option.some.injEq, Prod.mk.injEq] at H
  obtain ⟨rfl, rfl, rfl, rfl, rfl, rfl⟩ := H
  go_enter Try.func16, Try.ntmps16
  go_wp2_with (first | ((with_reducible refine gate_dst (N := 2) rfl ?_); refine box_event ?hg (N := 2) ?hd (cs := #[.int .i64 0, .int .i64 0, .int .i64 0, .int .i64 0, .slice none 0 0]) (t := 32) ?hr ?_; (case hd => rfl); (case hg => rfl); (case hr => first | (go_simp; done) | (go_simp; rfl)); intro gb312 hg w3 hbox hb; have n0_ := Aside0.mk (below_step (be_ HB) hb); have n1_ := Aside0.mk (hbox); have n2_ := gw_ HB hg; have n3_ := gw_ HB hg; clear HB; have HB := n0_; have BK312 := n1_; have GW312 := n2_; have GE312 := n3_; clear n0_ n1_ n2_ n3_; clear hb hbox hg; have hcz4_0 := bc_ BK312 0 (.int .i64 0) rfl; have hcz4_1 := bc_ BK312 1 (.int .i64 0) rfl; have hcz4_2 := bc_ BK312 2 (.int .i64 0) rfl; have hcz4_3 := bc_ BK312 3 (.int .i64 0) rfl; have hcz4_4 := bc_ BK312 4 (.slice none 0 0) rfl; have hfz4_0 := blk_frozen BK312.out 0; have hfz4_1 := blk_frozen BK312.out 1; have hfz4_2 := blk_frozen BK312.out 2; have hfz4_3 := blk_frozen BK312.out 3; have hfz4_4 := blk_frozen BK312.out 4))
  refine bodyPost_ret (results_ct rfl _ _ gb312 32 #[.int .i64 0, .int .i64 0, .int .i64 0, .int .i64 0, .slice none 0 0] (0, 0) _ rfl (by (with_reducible repeat (first | refine blk_drewN ?_ _ | refine blk_drew ?_ | refine blk_alloc ?_ _)); refine blk_put (cs := #[.int .i64 0, .int .i64 0, .int .i64 0, .int .i64 0, .slice none 0 0]) ?_ 4 _ rfl; (with_reducible repeat (first | refine blk_drewN ?_ _ | refine blk_drew ?_ | refine blk_alloc ?_ _)); refine blk_put (cs := #[.int .i64 0, .int .i64 0, .int .i64 0, .int .i64 0, .slice none 0 0]) ?_ 3 _ rfl; (with_reducible repeat (first | refine blk_drewN ?_ _ | refine blk_drew ?_ | refine blk_alloc ?_ _)); refine blk_put (cs := #[.int .i64 0, .int .i64 0, .int .i64 0, .int .i64 0, .slice none 0 0]) ?_ 2 _ rfl; (with_reducible repeat (first | refine blk_drewN ?_ _ | refine blk_drew ?_ | refine blk_alloc ?_ _)); refine blk_put (cs := #[.int .i64 0, .int .i64 0, .int .i64 0, .int .i64 0, .slice none 0 0]) ?_ 1 _ rfl; (with_reducible repeat (first | refine blk_drewN ?_ _ | refine blk_drew ?_ | refine blk_alloc ?_ _)); refine blk_put (cs := #[.int .i64 0, .int .i64 0, .int .i64 0, .int .i64 0, .slice none 0 0]) ?_ 0 _ rfl; exact bk_ BK312) Try.underlying32 rfl (by kernel_rfl)) rfl ?_
  exact ⟨_, by first | rfl | (simp [errW_none, errW_some] <;> rfl) | (simp [*, errW_none, errW_some] <;> rfl), by first | exact Kd.R_nil _ _ _ _ _ | exact Kd.N_nil _ _ _ _ _ | exact Kd.V_nil _ _ _ _ _ | exact Kd.Q_nil _ _ _ _ _ | exact Kd.S_nil _ _ _ _ _, bf_ HB⟩
 ·rw [if_neg c2] at H
  have c2b0 : decide (1600 < (l0.length : Int)) = false := decide_eq_false c2
  have c2b1 : decide (1600 < l0.length) = false := decide_eq_false (by omega)
  clear c2
  by_cases c5 : (l0.length : Int) < 14
  ·rw [if_pos c5] at H
   have c5b0 : decide ((l0.length : Int) < 14) = true := decide_eq_true c5
   have c5b1 : decide (l0.length < 14) = true := decide_eq_true (by omega)
   clear c5
   simp only [Option.some.injEq, Prod.mk.injEq] at H
   obtain ⟨rfl, rfl, rfl, rfl, rfl, rfl⟩ := H
   go_enter Try.func16, Try.ntmps16
   go_wp2_with (first | ((with_reducible refine gate_dst (N := 2) rfl ?_); refine box_event ?hg (N := 2) ?hd (cs := #[.int .i64 0, .int .i64 0, .int .i64 0, .int .i64 0, .slice none 0 0]) (t := 32) ?hr ?_; (case hd => rfl); (case hg => rfl); (case hr => first | (go_simp; done) | (go_simp; rfl)); intro gb312 hg w6 hbox hb; have n0_ := Aside0.mk (below_step (be_ HB) hb); have n1_ := Aside0.mk (hbox); have n2_ := gw_ HB hg; have n3_ := gw_ HB hg; clear HB; have HB := n0_; have BK312 := n1_; have GW312 := n2_; have GE312 := n3_; clear n0_ n1_ n2_ n3_; clear hb hbox hg; have hcz7_0 := bc_ BK312 0 (.int .i64 0) rfl; have hcz7_1 := bc_ BK312 1 (.int .i64 0) rfl; have hcz7_2 := bc_ BK312 2 (.int .i64 0) rfl; have hcz7_3 := bc_ BK312 3 (.int .i64 0) rfl; have hcz7_4 := bc_ BK312 4 (.slice none 0 0) rfl; have hfz7_0 := blk_frozen BK312.out 0; have hfz7_1 := blk_frozen BK312.out 1; have hfz7_2 := blk_frozen BK312.out 2; have hfz7_3 := blk_frozen BK312.out 3; have hfz7_4 := blk_frozen BK312.out 4))
   refine bodyPost_ret (results_ct rfl _ _ gb312 32 #[.int .i64 0, .int .i64 0, .int .i64 0, .int .i64 0, .slice none 0 0] (0, 0) _ rfl (by (with_reducible repeat (first | refine blk_drewN ?_ _ | refine blk_drew ?_ | refine blk_alloc ?_ _)); refine blk_put (cs := #[.int .i64 0, .int .i64 0, .int .i64 0, .int .i64 0, .slice none 0 0]) ?_ 4 _ rfl; (with_reducible repeat (first | refine blk_drewN ?_ _ | refine blk_drew ?_ | refine blk_alloc ?_ _)); refine blk_put (cs := #[.int .i64 0, .int .i64 0, .int .i64 0, .int .i64 0, .slice none 0 0]) ?_ 3 _ rfl; (with_reducible repeat (first | refine blk_drewN ?_ _ | refine blk_drew ?_ | refine blk_alloc ?_ _)); refine blk_put (cs := #[.int .i64 0, .int .i64 0, .int .i64 0, .int .i64 0, .slice none 0 0]) ?_ 2 _ rfl; (with_reducible repeat (first | refine blk_drewN ?_ _ | refine blk_drew ?_ | refine blk_alloc ?_ _)); refine blk_put (cs := #[.int .i64 0, .int .i64 0, .int .i64 0, .int .i64 0, .slice none 0 0]) ?_ 1 _ rfl; (with_reducible repeat (first | refine blk_drewN ?_ _ | refine blk_drew ?_ | refine blk_alloc ?_ _)); refine blk_put (cs := #[.int .i64 0, .int .i64 0, .int .i64 0, .int .i64 0, .slice none 0 0]) ?_ 0 _ rfl; exact bk_ BK312) Try.underlying32 rfl (by kernel_rfl)) rfl ?_
   exact ⟨_, by first | rfl | (simp [errW_none, errW_some] <;> rfl) | (simp [*, errW_none, errW_some] <;> rfl), by first | exact Kd.R_nil _ _ _ _ _ | exact Kd.N_nil _ _ _ _ _ | exact Kd.V_nil _ _ _ _ _ | exact Kd.Q_nil _ _ _ _ _ | exact Kd.S_nil _ _ _ _ _, bf_ HB⟩
  ·rw [if_neg c5] at H
   have c5b0 : decide ((l0.length : Int) < 14) = false := decide_eq_false c5
   have c5b1 : decide (l0.length < 14) = false := decide_eq_false (by omega)
   clear c5
   by_cases c8 : 6 ≤ (l0.length : Int)
   ·rw [if_pos c8] at H
    have c8b0 := eq_true c8
    have c8b1 : decide (6 ≤ (l0.length : Int)) = true := decide_eq_true c8
    clear c8
    replace H := Option.bind_eq_some_iff.mp H
    obtain ⟨t314, A90, H⟩ := H
    replace H : (if 6 ≤ 12 then (if 12 ≤ (l0.length : Int) then ((impl_beOf.f k ((l0.take 12).drop 6)).bind fun t316 => (if 12 ≤ 14 then (if 14 ≤ (l0.length : Int) then ((impl_beOf.f k ((l0.take 14).drop 12)).bind fun t318 => (if t318 = 33024 then (if (l0.length : Int) < 18 then (some (0, 0, 0, 0, ([] : List Int), 3)) else (if 14 ≤ 16 then (if 16 ≤ (l0.length : Int) then ((impl_beOf.f k ((l0.take 16).drop 14)).bind fun t321 => (if 16 ≤ 18 then (if 18 ≤ (l0.length : Int) then ((impl_beOf.f k ((l0.take 18).drop 16)).bind fun t323 => (impl_EtherRead.j0 k l0 t314 t316 t321 t323)) else (none)) else (none))) else (none)) else (none))) else (impl_EtherRead.j0 k l0 t314 t316 (-1) t318))) else (none)) else (none))) else (none)) else (none)) = some (r1, r2, r3, r4, r5, r6) := H
    have A9 := Aside0.mk A90
    clear A90
    by_cases c10 : 6 ≤ 12
    ·rw [if_pos c10] at H
     have c10b0 := eq_true c10
     have c10b1 : decide (6 ≤ 12) = true := decide_eq_true c10
     clear c10
     by_cases c11 : 12 ≤ (l0.length : Int)
     ·rw [if_pos c11] at H
      have c11b0 := eq_true c11
      have c11b1 : decide (12 ≤ (l0.length : Int)) = true := decide_eq_true c11
      clear c11
      replace H := Option.bind_eq_some_iff.mp H
      obtain ⟨t316, A120, H⟩ := H
      replace H : (if 12 ≤ 14 then (if 14 ≤ (l0.length : Int) then ((impl_beOf.f k ((l0.take 14).drop 12)).bind fun t318 => (if t318 = 33024 then (if (l0.length : Int) < 18 then (some (0, 0, 0, 0, ([] : List Int), 3)) else (if 14 ≤ 16 then (if 16 ≤ (l0.length : Int) then ((impl_beOf.f k ((l0.take 16).drop 14)).bind fun t321 => (if 16 ≤ 18 then (if 18 ≤ (l0.length : Int) then ((impl_beOf.f k ((l0.take 18).drop 16)).bind fun t323 => (impl_EtherRead.j0 k l0 t314 t316 t321 t323)) else (none)) else (none))) else (none)) else (none))) else (impl_EtherRead.j0 k l0 t314 t316 (-1) t318))) else (none)) else (none)) = some (r1, r2, r3, r4, r5, r6) := H
      have A12 := Aside0.mk A120
      clear A120
      by_cases c13 : 12 ≤ 14
      ·rw [if_pos c13] at H
       have c13b0 := eq_true c13
       have c13b1 : decide (12 ≤ 14) = true := decide_eq_true c13
       clear c13
       by_cases c14 : 14 ≤ (l0.length : Int)
       ·rw [if_pos c14] at H
        have c14b0 := eq_true c14
        have c14b1 : decide (14 ≤ (l0.length : Int)) = true := decide_eq_true c14
        clear c14
        replace H := Option.bind_eq_some_iff.mp H
        obtain ⟨t318, A150, H⟩ := H
        replace H : (if t318 = 33024 then (if (l0.length : Int) < 18 then (some (0, 0, 0, 0, ([] : List Int), 3)) else (if 14 ≤ 16 then (if 16 ≤ (l0.length : Int) then ((impl_beOf.f k ((l0.take 16).drop 14)).bind fun t321 => (if 16 ≤ 18 then (if 18 ≤ (l0.length : Int) then ((impl_beOf.f k ((l0.take 18).drop 16)).bind fun t323 => (impl_EtherRead.j0 k l0 t314 t316 t321 t323)) else (none)) else (none))) else (none)) else (none))) else (impl_EtherRead.j0 k l0 t314 t316 (-1) t318)) = some (r1, r2, r3, r4, r5, r6) := H
        have A15 := Aside0.mk A150
        clear A150
        have HC16 := Aside0.mk H
        clear H
        go_enter Try.func16, Try.ntmps16
        try go_wp2_with (first | ((with_reducible refine gate_dst (N := 2) rfl ?_); refine box_event ?hg (N := 2) ?hd (cs := #[.int .i64 0, .int .i64 0, .int .i64 0, .int .i64 0, .slice none 0 0]) (t := 32) ?hr ?_; (case hd => rfl); (case hg => rfl); (case hr => first | (go_simp; done) | (go_simp; rfl)); intro gb312 hg w17 hbox hb; have n0_ := Aside0.mk (below_step (be_ HB) hb); have n1_ := Aside0.mk (hbox); have n2_ := gw_ HB hg; have n3_ := gw_ HB hg; clear HB; have HB := n0_; have BK312 := n1_; have GW312 := n2_; have GE312 := n3_; clear n0_ n1_ n2_ n3_; clear hb hbox hg))
        have n0_ := Aside0.mk (blk_drew BK312.out); have n1_ := Aside0.mk (below_drew1 HB.out); clear BK312; clear HB; have BK312 := n0_; have HB := n1_; clear n0_ n1_
        obtain ⟨i019, hi019, _, hsz19, _⟩ := info_parts info5
        obtain ⟨hcut19, hA19, hC19⟩ := print_take_of (P := Try.prog) (Value.int .u8) 0 22 5 .i64 Try.underlying22 hi019 hsz19 A0 c0 l0 6 (by omega) (of_decide_eq_true (by first | (with_reducible assumption) | assumption)) HC0.out
        have HR313 := Aside0.mk (Kd.C_of_reads (h1 := fun _ => rfl) (hA19 _ (Kd.reads_of_C HR0.out)))
        have HC313 := Aside0.mk hC19
        clear hA19 hC19 hi019 hsz19
        obtain ⟨i020, hi020, _, hsz20, _⟩ := info_parts info5
        obtain ⟨A20, hcut20, hA20, hC20⟩ := print_mid_of (P := Try.prog) (Value.int .u8) 0 22 5 .i64 .i64 Try.underlying22 hi020 hsz20 A0 c0 l0 6 12 (by omega) (by first | omega | exact of_decide_eq_true (by first | (with_reducible assumption) | assumption)) (of_decide_eq_true (by first | (with_reducible assumption) | assumption)) HC0.out
        have HR315 := Aside0.mk (Kd.C_of_reads (h1 := fun _ => rfl) (hA20 _ (Kd.reads_of_C HR0.out)))
        have HC315 := Aside0.mk hC20
        clear hA20 hC20 hi020 hsz20
        obtain ⟨i021, hi021, _, hsz21, _⟩ := info_parts info5
        obtain ⟨A21, hcut21, hA21, hC21⟩ := print_mid_of (P := Try.prog) (Value.int .u8) 0 22 5 .i64 .i64 Try.underlying22 hi021 hsz21 A0 c0 l0 12 14 (by omega) (by first | omega | exact of_decide_eq_true (by first | (with_reducible assumption) | assumption)) (of_decide_eq_true (by first | (with_reducible assumption) | assumption)) HC0.out
        have HR317 := Aside0.mk (Kd.C_of_reads (h1 := fun _ => rfl) (hA21 _ (Kd.reads_of_C HR0.out)))
        have HC317 := Aside0.mk hC21
        clear hA21 hC21 hi021 hsz21
        refine start_ (n := 12) (S := fun w' => True) (ds := []) (bs 12 0) (by kernel_rfl) rfl rfl trivial (fun hHeld => ?_); refine with_tabW impl_EtherRead.tab5 impl_EtherRead.bits5 (fun HT_ HW_ => ?_)
        generalize w17.drew = w18 at BK312 HB HR313 HR315 HR317 hHeld ⊢
        refine pure_s (i := 0) (N := some 15) (bs 12 1) (any_of HT_.out (by kernel_rfl)) (h := ?_)
        refine pure_s (i := 1) (N := some 16) (bs 12 2) (any_of HT_.out (by kernel_rfl)) (h := ?_)
        refine pure_s (i := 3) (N := some 18) #[oT,oT,oF,oT,oF,oF,oF,oF,oF,oF,oF,oF] (any_of HT_.out (by kernel_rfl)) (h := ?_)
        refine pure_s (i := 4) (N := some 19) #[oT,oT,oF,oT,oT,oF,oF,oF,oF,oF,oF,oF] (any_of HT_.out (by kernel_rfl)) (h := ?_)
        refine pure_s (i := 6) (N := some 21) #[oT,oT,oF,oT,oT,oF,oT,oF,oF,oF,oF,oF] (any_of HT_.out (by kernel_rfl)) (h := ?_)
        refine pure_s (i := 7) (N := some 22) #[oT,oT,oF,oT,oT,oF,oT,oT,oF,oF,oF,oF] (any_of HT_.out (by kernel_rfl)) (h := ?_)
        refine join_ (σ := Nat) 1 (bs 12 11) (fun s_ => [(17, .int .i64 t314), (20, .int .i64 t316), (23, .int .i64 t318), (4, .pointer (some ⟨s_, 0, none⟩)), (24, .agg #[.int .i64 t314, .int .i64 t316, .int .i64 (-1), .int .i64 t318, .slice none 0 0])]) (fun s_ w' => (w'.heap[gb312]? = some (.cells #[.int .i64 0, .int .i64 0, .int .i64 0, .int .i64 0, .slice none 0 0] 32 (0, 0))) ∧ (w'.heap[s_]? = some (.cells #[.int .i64 0, .int .i64 0, .int .i64 0, .int .i64 0, .slice none 0 0] 32 (0, 0))) ∧ (w.heap.size ≤ s_) ∧ (w.heap.size ≤ s_) ∧ (gb312 ≠ s_) ∧ (s_ ≠ gb312) ∧ (Below w.heap.size w w')) ?_ ?_
        rotate_left
        ·intro hCont
         refine two_ (i := 2) (j := 10) (Ni := some 17) (Nj := some 4) #[oT,oT,oT,oT,oT,oF,oT,oT,oF,oF,oF,oF] #[oT,oT,oF,oT,oT,oF,oT,oT,oF,oF,oT,oF] rfl rfl rfl rfl (two_of HT_.out (by kernel_rfl)) (by decide) (by decide) (fun K hK => ?_) (fun K hK => ?_)
         ·skip
          refine goes_ Try.func65 (by kernel_rfl) rfl #[.slice A0 (l0.take 6).length c0] (by rfl) rfl rfl (by (try simp only [List.map_toArray, List.map_cons, List.map_nil]); first | done | (rw [show (l0.take 6).length = 6 from (by rw [List.length_take]; have h_ : (6 : Int) ≤ (l0.length : Int) := of_decide_eq_true (by first | (with_reducible assumption) | assumption); omega)] <;> rfl) | rfl | (simp only [List.length_drop, List.length_take]; rfl)) ?_
          with_reducible refine (impl_beOf.calls k _ _ (l0.take 6) t314 _ ?side1 ?side2 A9.out).mono ?_
          (case side1 => repeat (first | exact (Kd.C_below HR313.out HB.out) | (with_reducible refine Kd.C_alloc ?_ _) | (with_reducible refine Kd.C_drewN ?_ _) | (with_reducible refine Kd.C_drew ?_)))
          (case side2 => exact HC313.out)
          rintro e w' ⟨rfl, ⟨nd, rfl⟩⟩
          refine ⟨_, rfl, ?_⟩
          refine hK.out _ _ trivial (fun hHeld => ?_)
          clear hK K
          refine norm_ (a' := ?_) ?_ ?_
          rotate_left
          ·show Act.put _ (some 17) _ = _
           simp only [Act.put, List.setIfInBounds_toArray, List.set_cons_zero, List.set_cons_succ, i64_w, i32_w]
           rfl
          refine two_ (i := 5) (j := 10) (Ni := some 20) (Nj := some 4) (bs 12 8) #[oT,oT,oT,oT,oT,oF,oT,oT,oF,oF,oT,oF] rfl rfl rfl rfl (two_of HT_.out (by kernel_rfl)) (by decide) (by decide) (fun K hK => ?_) (fun K hK => ?_)
          ·skip
           refine goes_ Try.func65 (by kernel_rfl) rfl #[.slice A20 ((l0.take 12).drop 6).length (c0 - 6)] (by rfl) rfl rfl (by (try simp only [List.map_toArray, List.map_cons, List.map_nil]); first | done | (rw [show ((l0.take 12).drop 6).length = (12 - 6) from (by rw [List.length_drop, List.length_take]; have h_ : (12 : Int) ≤ (l0.length : Int) := of_decide_eq_true (by first | (with_reducible assumption) | assumption); omega)] <;> rfl) | rfl | (simp only [List.length_drop, List.length_take]; rfl)) ?_
           with_reducible refine (impl_beOf.calls k _ _ ((l0.take 12).drop 6) t316 _ ?side1 ?side2 A12.out).mono ?_
           (case side1 => repeat (first | exact (Kd.C_below HR315.out (bf_ HB)) | (with_reducible refine Kd.C_alloc ?_ _) | (with_reducible refine Kd.C_drewN ?_ _) | (with_reducible refine Kd.C_drew ?_)))
           (case side2 => exact HC315.out)
           rintro e w' ⟨rfl, ⟨nd, rfl⟩⟩
           refine ⟨_, rfl, ?_⟩
           refine hK.out _ _ trivial (fun hHeld => ?_)
           clear hK K
           refine norm_ (a' := ?_) ?_ ?_
           rotate_left
           ·show Act.put _ (some 20) _ = _
            simp only [Act.put, List.setIfInBounds_toArray, List.set_cons_zero, List.set_cons_succ, i64_w, i32_w]
            rfl
           refine two_ (i := 8) (j := 10) (Ni := some 23) (Nj := some 4) (bs 12 9) #[oT,oT,oT,oT,oT,oT,oT,oT,oF,oF,oT,oF] rfl rfl rfl rfl (two_of HT_.out (by kernel_rfl)) (by decide) (by decide) (fun K hK => ?_) (fun K hK => ?_)
           ·skip
            refine goes_ Try.func65 (by kernel_rfl) rfl #[.slice A21 ((l0.take 14).drop 12).length (c0 - 12)] (by rfl) rfl rfl (by (try simp only [List.map_toArray, List.map_cons, List.map_nil]); first | done | (rw [show ((l0.take 14).drop 12).length = (14 - 12) from (by rw [List.length_drop, List.length_take]; have h_ : (14 : Int) ≤ (l0.length : Int) := of_decide_eq_true (by first | (with_reducible assumption) | assumption); omega)] <;> rfl) | rfl | (simp only [List.length_drop, List.length_take]; rfl)) ?_
            with_reducible refine (impl_beOf.calls k _ _ ((l0.take 14).drop 12) t318 _ ?side1 ?side2 A15.out).mono ?_
            (case side1 => repeat (first | exact (Kd.C_below HR317.out (bf_ HB)) | (with_reducible refine Kd.C_alloc ?_ _) | (with_reducible refine Kd.C_drewN ?_ _) | (with_reducible refine Kd.C_drew ?_)))
            (case side2 => exact HC317.out)
            rintro e w' ⟨rfl, ⟨nd, rfl⟩⟩
            refine ⟨_, rfl, ?_⟩
            refine hK.out _ _ trivial (fun hHeld => ?_)
            clear hK K
            refine norm_ (a' := ?_) ?_ ?_
            rotate_left
            ·show Act.put _ (some 23) _ = _
             simp only [Act.put, List.setIfInBounds_toArray, List.set_cons_zero, List.set_cons_succ, i64_w, i32_w]
             rfl
            refine pure_s (i := 9) (N := some 24) (bs 12 10) (any_of HT_.out (by kernel_rfl)) (h := ?_)
            refine one_ (i := 10) (N := some 4) (bs 12 11) rfl rfl (one_of HT_.out (by kernel_rfl)) (by decide) (fun K hK => ?_)
            refine box_step ?hg (N := 4) ?hd (cs := #[.int .i64 0, .int .i64 0, .int .i64 0, .int .i64 0, .slice none 0 0]) (t := 32) ?hr ?_; (case hd => rfl); (case hg => rfl); (case hr => first | (go_simp; done) | (go_simp; rfl))
            intro gb319 hg w22 hbox hb
            have n0_ := bb_ BK312 hb; have n1_ := Aside0.mk (below_step (bf_ HB) hb); have n2_ := Aside0.mk (hbox); have n3_ := gw_ HB hg; have n4_ := gw_ HB hg; have n5_ := nl_ BK312 hg; have n6_ := ng_ BK312 hg; clear BK312; clear HB; have BK312 := n0_; have HB := n1_; have BK319 := n2_; have GW319 := n3_; have GE319 := n4_; have NB312_319 := n5_; have NB319_312 := n6_; clear n0_ n1_ n2_ n3_ n4_ n5_ n6_; clear hb hbox hg
            refine hK.out _ _ trivial (fun hHeld => ?_)
            clear hK K
            refine norm_ (a' := ?_) ?_ ?_
            rotate_left
            ·show Act.put _ (some 4) _ = _
             simp only [Act.put, List.setIfInBounds_toArray, List.set_cons_zero, List.set_cons_succ, i64_w, i32_w]
             rfl
            exact norm_ (by simp only [putAll, Act.put, List.setIfInBounds_toArray, List.set_cons_zero, List.set_cons_succ]) (hCont (gb319) _ ⟨(bk_ BK312), (bk_ BK319), GW319.out, GE319.out, NB312_319.out, NB319_312.out, (bf_ HB)⟩)
           ·skip
            refine box_step ?hg (N := 4) ?hd (cs := #[.int .i64 0, .int .i64 0, .int .i64 0, .int .i64 0, .slice none 0 0]) (t := 32) ?hr ?_; (case hd => rfl); (case hg => rfl); (case hr => first | (go_simp; done) | (go_simp; rfl))
            intro gb319 hg w22 hbox hb
            have n0_ := bb_ BK312 hb; have n1_ := Aside0.mk (below_step (bf_ HB) hb); have n2_ := Aside0.mk (hbox); have n3_ := gw_ HB hg; have n4_ := gw_ HB hg; have n5_ := nl_ BK312 hg; have n6_ := ng_ BK312 hg; clear BK312; clear HB; have BK312 := n0_; have HB := n1_; have BK319 := n2_; have GW319 := n3_; have GE319 := n4_; have NB312_319 := n5_; have NB319_312 := n6_; clear n0_ n1_ n2_ n3_ n4_ n5_ n6_; clear hb hbox hg
            refine hK.out _ _ trivial (fun hHeld => ?_)
            clear hK K
            refine norm_ (a' := ?_) ?_ ?_
            rotate_left
            ·show Act.put _ (some 4) _ = _
             simp only [Act.put, List.setIfInBounds_toArray, List.set_cons_zero, List.set_cons_succ, i64_w, i32_w]
             rfl
            refine one_ (i := 8) (N := some 23) #[oT,oT,oT,oT,oT,oT,oT,oT,oT,oF,oT,oF] rfl rfl (one_of HT_.out (by kernel_rfl)) (by decide) (fun K hK => ?_)
            refine goes_ Try.func65 (by kernel_rfl) rfl #[.slice A21 ((l0.take 14).drop 12).length (c0 - 12)] (by rfl) rfl rfl (by (try simp only [List.map_toArray, List.map_cons, List.map_nil]); first | done | (rw [show ((l0.take 14).drop 12).length = (14 - 12) from (by rw [List.length_drop, List.length_take]; have h_ : (14 : Int) ≤ (l0.length : Int) := of_decide_eq_true (by first | (with_reducible assumption) | assumption); omega)] <;> rfl) | rfl | (simp only [List.length_drop, List.length_take]; rfl)) ?_
            with_reducible refine (impl_beOf.calls k _ _ ((l0.take 14).drop 12) t318 _ ?side1 ?side2 A15.out).mono ?_
            (case side1 => repeat (first | exact (Kd.C_below HR317.out HB.out) | (with_reducible refine Kd.C_alloc ?_ _) | (with_reducible refine Kd.C_drewN ?_ _) | (with_reducible refine Kd.C_drew ?_)))
            (case side2 => exact HC317.out)
            rintro e w' ⟨rfl, ⟨nd, rfl⟩⟩
            refine ⟨_, rfl, ?_⟩
            refine hK.out _ _ trivial (fun hHeld => ?_)
            clear hK K
            refine norm_ (a' := ?_) ?_ ?_
            rotate_left
            ·show Act.put _ (some 23) _ = _
             simp only [Act.put, List.setIfInBounds_toArray, List.set_cons_zero, List.set_cons_succ, i64_w, i32_w]
             rfl
            refine pure_s (i := 9) (N := some 24) (bs 12 11) (any_of HT_.out (by kernel_rfl)) (h := ?_)
            exact norm_ (by simp only [putAll, Act.put, List.setIfInBounds_toArray, List.set_cons_zero, List.set_cons_succ]) (hCont (gb319) _ ⟨(bk_ BK312), (bk_ BK319), GW319.out, GE319.out, NB312_319.out, NB319_312.out, (bf_ HB)⟩)
          ·skip
           refine box_step ?hg (N := 4) ?hd (cs := #[.int .i64 0, .int .i64 0, .int .i64 0, .int .i64 0, .slice none 0 0]) (t := 32) ?hr ?_; (case hd => rfl); (case hg => rfl); (case hr => first | (go_simp; done) | (go_simp; rfl))
           intro gb319 hg w22 hbox hb
           have n0_ := bb_ BK312 hb; have n1_ := Aside0.mk (below_step (bf_ HB) hb); have n2_ := Aside0.mk (hbox); have n3_ := gw_ HB hg; have n4_ := gw_ HB hg; have n5_ := nl_ BK312 hg; have n6_ := ng_ BK312 hg; clear BK312; clear HB; have BK312 := n0_; have HB := n1_; have BK319 := n2_; have GW319 := n3_; have GE319 := n4_; have NB312_319 := n5_; have NB319_312 := n6_; clear n0_ n1_ n2_ n3_ n4_ n5_ n6_; clear hb hbox hg
           refine hK.out _ _ trivial (fun hHeld => ?_)
           clear hK K
           refine norm_ (a' := ?_) ?_ ?_
           rotate_left
           ·show Act.put _ (some 4) _ = _
            simp only [Act.put, List.setIfInBounds_toArray, List.set_cons_zero, List.set_cons_succ, i64_w, i32_w]
            rfl
           refine one_ (i := 5) (N := some 20) #[oT,oT,oT,oT,oT,oT,oT,oT,oF,oF,oT,oF] rfl rfl (one_of HT_.out (by kernel_rfl)) (by decide) (fun K hK => ?_)
           refine goes_ Try.func65 (by kernel_rfl) rfl #[.slice A20 ((l0.take 12).drop 6).length (c0 - 6)] (by rfl) rfl rfl (by (try simp only [List.map_toArray, List.map_cons, List.map_nil]); first | done | (rw [show ((l0.take 12).drop 6).length = (12 - 6) from (by rw [List.length_drop, List.length_take]; have h_ : (12 : Int) ≤ (l0.length : Int) := of_decide_eq_true (by first | (with_reducible assumption) | assumption); omega)] <;> rfl) | rfl | (simp only [List.length_drop, List.length_take]; rfl)) ?_
           with_reducible refine (impl_beOf.calls k _ _ ((l0.take 12).drop 6) t316 _ ?side1 ?side2 A12.out).mono ?_
           (case side1 => repeat (first | exact (Kd.C_below HR315.out HB.out) | (with_reducible refine Kd.C_alloc ?_ _) | (with_reducible refine Kd.C_drewN ?_ _) | (with_reducible refine Kd.C_drew ?_)))
           (case side2 => exact HC315.out)
           rintro e w' ⟨rfl, ⟨nd, rfl⟩⟩
           refine ⟨_, rfl, ?_⟩
           refine hK.out _ _ trivial (fun hHeld => ?_)
           clear hK K
           refine norm_ (a' := ?_) ?_ ?_
           rotate_left
           ·show Act.put _ (some 20) _ = _
            simp only [Act.put, List.setIfInBounds_toArray, List.set_cons_zero, List.set_cons_succ, i64_w, i32_w]
            rfl
           refine one_ (i := 8) (N := some 23) #[oT,oT,oT,oT,oT,oT,oT,oT,oT,oF,oT,oF] rfl rfl (one_of HT_.out (by kernel_rfl)) (by decide) (fun K hK => ?_)
           refine goes_ Try.func65 (by kernel_rfl) rfl #[.slice A21 ((l0.take 14).drop 12).length (c0 - 12)] (by rfl) rfl rfl (by (try simp only [List.map_toArray, List.map_cons, List.map_nil]); first | done | (rw [show ((l0.take 14).drop 12).length = (14 - 12) from (by rw [List.length_drop, List.length_take]; have h_ : (14 : Int) ≤ (l0.length : Int) := of_decide_eq_true (by first | (with_reducible assumption) | assumption); omega)] <;> rfl) | rfl | (simp only [List.length_drop, List.length_take]; rfl)) ?_
           with_reducible refine (impl_beOf.calls k _ _ ((l0.take 14).drop 12) t318 _ ?side1 ?side2 A15.out).mono ?_
           (case side1 => repeat (first | exact (Kd.C_below HR317.out (bf_ HB)) | (with_reducible refine Kd.C_alloc ?_ _) | (with_reducible refine Kd.C_drewN ?_ _) | (with_reducible refine Kd.C_drew ?_)))
           (case side2 => exact HC317.out)
           rintro e w' ⟨rfl, ⟨nd, rfl⟩⟩
           refine ⟨_, rfl, ?_⟩
           refine hK.out _ _ trivial (fun hHeld => ?_)
           clear hK K
           refine norm_ (a' := ?_) ?_ ?_
           rotate_left
           ·show Act.put _ (some 23) _ = _
            simp only [Act.put, List.setIfInBounds_toArray, List.set_cons_zero, List.set_cons_succ, i64_w, i32_w]
            rfl
           refine pure_s (i := 9) (N := some 24) (bs 12 11) (any_of HT_.out (by kernel_rfl)) (h := ?_)
           exact norm_ (by simp only [putAll, Act.put, List.setIfInBounds_toArray, List.set_cons_zero, List.set_cons_succ]) (hCont (gb319) _ ⟨(bk_ BK312), (bk_ BK319), GW319.out, GE319.out, NB312_319.out, NB319_312.out, (bf_ HB)⟩)
         ·skip
          refine box_step ?hg (N := 4) ?hd (cs := #[.int .i64 0, .int .i64 0, .int .i64 0, .int .i64 0, .slice none 0 0]) (t := 32) ?hr ?_; (case hd => rfl); (case hg => rfl); (case hr => first | (go_simp; done) | (go_simp; rfl))
          intro gb319 hg w22 hbox hb
          have n0_ := bb_ BK312 hb; have n1_ := Aside0.mk (below_step (bf_ HB) hb); have n2_ := Aside0.mk (hbox); have n3_ := gw_ HB hg; have n4_ := gw_ HB hg; have n5_ := nl_ BK312 hg; have n6_ := ng_ BK312 hg; clear BK312; clear HB; have BK312 := n0_; have HB := n1_; have BK319 := n2_; have GW319 := n3_; have GE319 := n4_; have NB312_319 := n5_; have NB319_312 := n6_; clear n0_ n1_ n2_ n3_ n4_ n5_ n6_; clear hb hbox hg
          refine hK.out _ _ trivial (fun hHeld => ?_)
          clear hK K
          refine norm_ (a' := ?_) ?_ ?_
          rotate_left
          ·show Act.put _ (some 4) _ = _
           simp only [Act.put, List.setIfInBounds_toArray, List.set_cons_zero, List.set_cons_succ, i64_w, i32_w]
           rfl
          refine one_ (i := 2) (N := some 17) #[oT,oT,oT,oT,oT,oF,oT,oT,oF,oF,oT,oF] rfl rfl (one_of HT_.out (by kernel_rfl)) (by decide) (fun K hK => ?_)
          refine goes_ Try.func65 (by kernel_rfl) rfl #[.slice A0 (l0.take 6).length c0] (by rfl) rfl rfl (by (try simp only [List.map_toArray, List.map_cons, List.map_nil]); first | done | (rw [show (l0.take 6).length = 6 from (by rw [List.length_take]; have h_ : (6 : Int) ≤ (l0.length : Int) := of_decide_eq_true (by first | (with_reducible assumption) | assumption); omega)] <;> rfl) | rfl | (simp only [List.length_drop, List.length_take]; rfl)) ?_
          with_reducible refine (impl_beOf.calls k _ _ (l0.take 6) t314 _ ?side1 ?side2 A9.out).mono ?_
          (case side1 => repeat (first | exact (Kd.C_below HR313.out HB.out) | (with_reducible refine Kd.C_alloc ?_ _) | (with_reducible refine Kd.C_drewN ?_ _) | (with_reducible refine Kd.C_drew ?_)))
          (case side2 => exact HC313.out)
          rintro e w' ⟨rfl, ⟨nd, rfl⟩⟩
          refine ⟨_, rfl, ?_⟩
          refine hK.out _ _ trivial (fun hHeld => ?_)
          clear hK K
          refine norm_ (a' := ?_) ?_ ?_
          rotate_left
          ·show Act.put _ (some 17) _ = _
           simp only [Act.put, List.setIfInBounds_toArray, List.set_cons_zero, List.set_cons_succ, i64_w, i32_w]
           rfl
          refine one_ (i := 5) (N := some 20) #[oT,oT,oT,oT,oT,oT,oT,oT,oF,oF,oT,oF] rfl rfl (one_of HT_.out (by kernel_rfl)) (by decide) (fun K hK => ?_)
          refine goes_ Try.func65 (by kernel_rfl) rfl #[.slice A20 ((l0.take 12).drop 6).length (c0 - 6)] (by rfl) rfl rfl (by (try simp only [List.map_toArray, List.map_cons, List.map_nil]); first | done | (rw [show ((l0.take 12).drop 6).length = (12 - 6) from (by rw [List.length_drop, List.length_take]; have h_ : (12 : Int) ≤ (l0.length : Int) := of_decide_eq_true (by first | (with_reducible assumption) | assumption); omega)] <;> rfl) | rfl | (simp only [List.length_drop, List.length_take]; rfl)) ?_
          with_reducible refine (impl_beOf.calls k _ _ ((l0.take 12).drop 6) t316 _ ?side1 ?side2 A12.out).mono ?_
          (case side1 => repeat (first | exact (Kd.C_below HR315.out (bf_ HB)) | (with_reducible refine Kd.C_alloc ?_ _) | (with_reducible refine Kd.C_drewN ?_ _) | (with_reducible refine Kd.C_drew ?_)))
          (case side2 => exact HC315.out)
          rintro e w' ⟨rfl, ⟨nd, rfl⟩⟩
          refine ⟨_, rfl, ?_⟩
          refine hK.out _ _ trivial (fun hHeld => ?_)
          clear hK K
          refine norm_ (a' := ?_) ?_ ?_
          rotate_left
          ·show Act.put _ (some 20) _ = _
           simp only [Act.put, List.setIfInBounds_toArray, List.set_cons_zero, List.set_cons_succ, i64_w, i32_w]
           rfl
          refine one_ (i := 8) (N := some 23) #[oT,oT,oT,oT,oT,oT,oT,oT,oT,oF,oT,oF] rfl rfl (one_of HT_.out (by kernel_rfl)) (by decide) (fun K hK => ?_)
          refine goes_ Try.func65 (by kernel_rfl) rfl #[.slice A21 ((l0.take 14).drop 12).length (c0 - 12)] (by rfl) rfl rfl (by (try simp only [List.map_toArray, List.map_cons, List.map_nil]); first | done | (rw [show ((l0.take 14).drop 12).length = (14 - 12) from (by rw [List.length_drop, List.length_take]; have h_ : (14 : Int) ≤ (l0.length : Int) := of_decide_eq_true (by first | (with_reducible assumption) | assumption); omega)] <;> rfl) | rfl | (simp only [List.length_drop, List.length_take]; rfl)) ?_
          with_reducible refine (impl_beOf.calls k _ _ ((l0.take 14).drop 12) t318 _ ?side1 ?side2 A15.out).mono ?_
          (case side1 => repeat (first | exact (Kd.C_below HR317.out (bf_ HB)) | (with_reducible refine Kd.C_alloc ?_ _) | (with_reducible refine Kd.C_drewN ?_ _) | (with_reducible refine Kd.C_drew ?_)))
          (case side2 => exact HC317.out)
          rintro e w' ⟨rfl, ⟨nd, rfl⟩⟩
          refine ⟨_, rfl, ?_⟩
          refine hK.out _ _ trivial (fun hHeld => ?_)
          clear hK K
          refine norm_ (a' := ?_) ?_ ?_
          rotate_left
          ·show Act.put _ (some 23) _ = _
           simp only [Act.put, List.setIfInBounds_toArray, List.set_cons_zero, List.set_cons_succ, i64_w, i32_w]
           rfl
          refine pure_s (i := 9) (N := some 24) (bs 12 11) (any_of HT_.out (by kernel_rfl)) (h := ?_)
          exact norm_ (by simp only [putAll, Act.put, List.setIfInBounds_toArray, List.set_cons_zero, List.set_cons_succ]) (hCont (gb319) _ ⟨(bk_ BK312), (bk_ BK319), GW319.out, GE319.out, NB312_319.out, NB319_312.out, (bf_ HB)⟩)
        rintro gb319 w23 ⟨h0_, h1_, h2_, h3_, h4_, h5_, h6_⟩
        have n0_ : Aside0 (w23.heap[gb312]? = some (.cells #[.int .i64 0, .int .i64 0, .int .i64 0, .int .i64 0, .slice none 0 0] 32 (0, 0))) := ⟨h0_⟩
        have n1_ : Aside0 (w23.heap[gb319]? = some (.cells #[.int .i64 0, .int .i64 0, .int .i64 0, .int .i64 0, .slice none 0 0] 32 (0, 0))) := ⟨h1_⟩
        have n2_ : Aside0 (w.heap.size ≤ gb319) := ⟨h2_⟩
        have n3_ : Aside0 (w.heap.size ≤ gb319) := ⟨h3_⟩
        have n4_ : Aside0 (gb312 ≠ gb319) := ⟨h4_⟩
        have n5_ : Aside0 (gb319 ≠ gb312) := ⟨h5_⟩
        have n6_ : Aside0 (Below w.heap.size w w23) := ⟨h6_⟩
        clear BK312; clear HB; clear h0_ h1_ h2_ h3_ h4_ h5_ h6_; have BK312 := n0_; have BK319 := n1_; have GW319 := n2_; have GE319 := n3_; have NB312_319 := n4_; have NB319_312 := n5_; have HB := n6_; clear n0_ n1_ n2_ n3_ n4_ n5_ n6_
        have hHeld := trivial
        refine norm_ (a' := ?_) ?_ ?_
        rotate_left
        ·simp only [putAll, Act.put, List.setIfInBounds_toArray, List.set_cons_zero, List.set_cons_succ]
         rfl
        refine one_ (i := 11) (N := none) (bs 12 12) rfl rfl (one_of HT_.out (by kernel_rfl)) (by decide) (fun K hK => ?_)
        have hs24 := bc_ BK319 0 (.int .i64 0) rfl; have hfs24 := blk_frozen BK319.out 0; have hns24_0 := NB312_319.out; have hms24_0 := NB319_312.out; have hs25 := bc_ BK319 1 (.int .i64 0) rfl; have hfs25 := blk_frozen BK319.out 1; have hns25_0 := NB312_319.out; have hms25_0 := NB319_312.out; have hs26 := bc_ BK319 2 (.int .i64 0) rfl; have hfs26 := blk_frozen BK319.out 2; have hns26_0 := NB312_319.out; have hms26_0 := NB319_312.out; have hs27 := bc_ BK319 3 (.int .i64 0) rfl; have hfs27 := blk_frozen BK319.out 3; have hns27_0 := NB312_319.out; have hms27_0 := NB319_312.out; have hs28 := bc_ BK319 4 (.slice none 0 0) rfl; have hfs28 := blk_frozen BK319.out 4; have hns28_0 := NB312_319.out; have hms28_0 := NB319_312.out
        refine skip_ (w1 := ?_) (by rfl) rfl ?_ ?_
        rotate_left
        ·go_simp
         rfl
        refine hK.out _ _ trivial (fun hHeld => ?_)
        clear hK K
        refine done_ (done_of HT_.out (by kernel_rfl)) ?_
        have hnb29 := NB319_312.out; have hnc29 := NB312_319.out; have hcz30_0 := bc_ BK319 0 (.int .i64 0) rfl; have hcz30_1 := bc_ BK319 1 (.int .i64 0) rfl; have hcz30_2 := bc_ BK319 2 (.int .i64 0) rfl; have hcz30_3 := bc_ BK319 3 (.int .i64 0) rfl; have hcz30_4 := bc_ BK319 4 (.slice none 0 0) rfl; have hfz30_0 := blk_frozen BK319.out 0; have hfz30_1 := blk_frozen BK319.out 1; have hfz30_2 := blk_frozen BK319.out 2; have hfz30_3 := blk_frozen BK319.out 3; have hfz30_4 := blk_frozen BK319.out 4
        go_upto_if 27 with (fail)
        go_cut [] (fun wc => ∃ (kq : Nat) (x313000_15 : Int) (x313001_15 : Int) (x313002_15 : Int) (x313003_15 : Int) (x320002_15 : Int) (x320003_15 : Int), Aside0 (impl_EtherRead.j0 kq l0 t314 t316 x320002_15 x320003_15 = some (r1, r2, r3, r4, r5, r6)) ∧ Aside0 (kq ≤ k) ∧ Aside0 (wc.heap[gb312]? = some (.cells #[.int .i64 x313000_15, .int .i64 x313001_15, .int .i64 x313002_15, .int .i64 x313003_15, (.slice none 0 0)] 32 (0, 0))) ∧ Aside0 (wc.heap[gb319]? = some (.cells #[.int .i64 t314, .int .i64 t316, .int .i64 x320002_15, .int .i64 x320003_15, (.slice none 0 0)] 32 (0, 0))) ∧ Aside0 (Below w.heap.size w wc))
        case first =>
         have H := HC16.out
         clear HC16
         by_cases c31 : t318 = 33024
         ·rw [if_pos c31] at H
          have c31b0 : (t318 == 33024) = true := beq_iff_eq.mpr c31
          have c31b1 : (t318 != 33024) = false := bne_eq_false_iff_eq.mpr c31
          clear c31
          (first | rw [c31b0] | (simp only [i64_w, i32_w]; rw [c31b0]) | skip)
          by_cases c32 : (l0.length : Int) < 18
          ·rw [if_pos c32] at H
           have c32b0 : decide ((l0.length : Int) < 18) = true := decide_eq_true c32
           have c32b1 : decide (l0.length < 18) = true := decide_eq_true (by omega)
           clear c32
           simp only [Option.some.injEq, Prod.mk.injEq] at H
           obtain ⟨rfl, rfl, rfl, rfl, rfl, rfl⟩ := H
           have hnb33 := NB312_319.out; have hnc33 := NB319_312.out; have hcz34_0 := bc_ BK312 0 (.int .i64 0) rfl; have hcz34_1 := bc_ BK312 1 (.int .i64 0) rfl; have hcz34_2 := bc_ BK312 2 (.int .i64 0) rfl; have hcz34_3 := bc_ BK312 3 (.int .i64 0) rfl; have hcz34_4 := bc_ BK312 4 (.slice none 0 0) rfl; have hfz34_0 := blk_frozen BK312.out 0; have hfz34_1 := blk_frozen BK312.out 1; have hfz34_2 := blk_frozen BK312.out 2; have hfz34_3 := blk_frozen BK312.out 3; have hfz34_4 := blk_frozen BK312.out 4
           go_wp2
           refine bodyPost_ret (results_ct rfl _ _ gb312 32 #[.int .i64 0, .int .i64 0, .int .i64 0, .int .i64 0, .slice none 0 0] (0, 0) _ rfl (by (with_reducible repeat (first | refine blk_drewN ?_ _ | refine blk_drew ?_ | refine blk_alloc ?_ _)); refine blk_put (cs := #[.int .i64 0, .int .i64 0, .int .i64 0, .int .i64 0, .slice none 0 0]) ?_ 4 _ rfl; (with_reducible repeat (first | refine blk_drewN ?_ _ | refine blk_drew ?_ | refine blk_alloc ?_ _)); refine blk_put (cs := #[.int .i64 0, .int .i64 0, .int .i64 0, .int .i64 0, .slice none 0 0]) ?_ 3 _ rfl; (with_reducible repeat (first | refine blk_drewN ?_ _ | refine blk_drew ?_ | refine blk_alloc ?_ _)); refine blk_put (cs := #[.int .i64 0, .int .i64 0, .int .i64 0, .int .i64 0, .slice none 0 0]) ?_ 2 _ rfl; (with_reducible repeat (first | refine blk_drewN ?_ _ | refine blk_drew ?_ | refine blk_alloc ?_ _)); refine blk_put (cs := #[.int .i64 0, .int .i64 0, .int .i64 0, .int .i64 0, .slice none 0 0]) ?_ 1 _ rfl; (with_reducible repeat (first | refine blk_drewN ?_ _ | refine blk_drew ?_ | refine blk_alloc ?_ _)); refine blk_put (cs := #[.int .i64 0, .int .i64 0, .int .i64 0, .int .i64 0, .slice none 0 0]) ?_ 0 _ rfl; (with_reducible repeat (first | refine blk_drewN ?_ _ | refine blk_drew ?_ | refine blk_alloc ?_ _)); refine blk_far ?_ NB312_319.out _; (with_reducible repeat (first | refine blk_drewN ?_ _ | refine blk_drew ?_ | refine blk_alloc ?_ _)); refine blk_far ?_ NB312_319.out _; (with_reducible repeat (first | refine blk_drewN ?_ _ | refine blk_drew ?_ | refine blk_alloc ?_ _)); refine blk_far ?_ NB312_319.out _; (with_reducible repeat (first | refine blk_drewN ?_ _ | refine blk_drew ?_ | refine blk_alloc ?_ _)); refine blk_far ?_ NB312_319.out _; (with_reducible repeat (first | refine blk_drewN ?_ _ | refine blk_drew ?_ | refine blk_alloc ?_ _)); refine blk_far ?_ NB312_319.out _; exact bk_ BK312) Try.underlying32 rfl (by kernel_rfl)) rfl ?_
           exact ⟨_, by first | rfl | (simp [errW_none, errW_some] <;> rfl) | (simp [*, errW_none, errW_some] <;> rfl), by first | exact Kd.R_nil _ _ _ _ _ | exact Kd.N_nil _ _ _ _ _ | exact Kd.V_nil _ _ _ _ _ | exact Kd.Q_nil _ _ _ _ _ | exact Kd.S_nil _ _ _ _ _, bf_ HB⟩
          ·rw [if_neg c32] at H
           have c32b0 : decide ((l0.length : Int) < 18) = false := decide_eq_false c32
           have c32b1 : decide (l0.length < 18) = false := decide_eq_false (by omega)
           clear c32
           by_cases c35 : 14 ≤ 16
           ·rw [if_pos c35] at H
            have c35b0 := eq_true c35
            have c35b1 : decide (14 ≤ 16) = true := decide_eq_true c35
            clear c35
            by_cases c36 : 16 ≤ (l0.length : Int)
            ·rw [if_pos c36] at H
             have c36b0 := eq_true c36
             have c36b1 : decide (16 ≤ (l0.length : Int)) = true := decide_eq_true c36
             clear c36
             replace H := Option.bind_eq_some_iff.mp H
             obtain ⟨t321, A370, H⟩ := H
             replace H : (if 16 ≤ 18 then (if 18 ≤ (l0.length : Int) then ((impl_beOf.f k ((l0.take 18).drop 16)).bind fun t323 => (impl_EtherRead.j0 k l0 t314 t316 t321 t323)) else (none)) else (none)) = some (r1, r2, r3, r4, r5, r6) := H
             have A37 := Aside0.mk A370
             clear A370
             by_cases c38 : 16 ≤ 18
             ·rw [if_pos c38] at H
              have c38b0 := eq_true c38
              have c38b1 : decide (16 ≤ 18) = true := decide_eq_true c38
              clear c38
              by_cases c39 : 18 ≤ (l0.length : Int)
              ·rw [if_pos c39] at H
               have c39b0 := eq_true c39
               have c39b1 : decide (18 ≤ (l0.length : Int)) = true := decide_eq_true c39
               clear c39
               replace H := Option.bind_eq_some_iff.mp H
               obtain ⟨t323, A400, H⟩ := H
               replace H : (impl_EtherRead.j0 k l0 t314 t316 t321 t323) = some (r1, r2, r3, r4, r5, r6) := H
               have A40 := Aside0.mk A400
               clear A400
               have H' := Aside0.mk H
               clear H
               try go_wp2
               have n0_ : Aside0 ((((((w23.setCell ⟨gb319, 0, none⟩ (.int .i64 t314)).setCell ⟨gb319, 1, none⟩ (.int .i64 t316)).setCell ⟨gb319, 2, none⟩ (.int .i64 (-1))).setCell ⟨gb319, 3, none⟩ (.int .i64 t318)).setCell ⟨gb319, 4, none⟩ (.slice none 0 0)).heap[gb312]? = some (.cells #[.int .i64 0, .int .i64 0, .int .i64 0, .int .i64 0, .slice none 0 0] 32 (0, 0))) := ⟨by (with_reducible repeat (first | refine blk_drewN ?_ _ | refine blk_drew ?_ | refine blk_alloc ?_ _)); refine blk_far ?_ NB312_319.out _; (with_reducible repeat (first | refine blk_drewN ?_ _ | refine blk_drew ?_ | refine blk_alloc ?_ _)); refine blk_far ?_ NB312_319.out _; (with_reducible repeat (first | refine blk_drewN ?_ _ | refine blk_drew ?_ | refine blk_alloc ?_ _)); refine blk_far ?_ NB312_319.out _; (with_reducible repeat (first | refine blk_drewN ?_ _ | refine blk_drew ?_ | refine blk_alloc ?_ _)); refine blk_far ?_ NB312_319.out _; (with_reducible repeat (first | refine blk_drewN ?_ _ | refine blk_drew ?_ | refine blk_alloc ?_ _)); refine blk_far ?_ NB312_319.out _; exact bk_ BK312⟩
               have n1_ : Aside0 ((((((w23.setCell ⟨gb319, 0, none⟩ (.int .i64 t314)).setCell ⟨gb319, 1, none⟩ (.int .i64 t316)).setCell ⟨gb319, 2, none⟩ (.int .i64 (-1))).setCell ⟨gb319, 3, none⟩ (.int .i64 t318)).setCell ⟨gb319, 4, none⟩ (.slice none 0 0)).heap[gb319]? = some (.cells #[.int .i64 t314, .int .i64 t316, .int .i64 (-1), .int .i64 t318, .slice none 0 0] 32 (0, 0))) := ⟨by (with_reducible repeat (first | refine blk_drewN ?_ _ | refine blk_drew ?_ | refine blk_alloc ?_ _)); refine blk_put (cs := #[.int .i64 t314, .int .i64 t316, .int .i64 (-1), .int .i64 t318, .slice none 0 0]) ?_ 4 _ rfl; (with_reducible repeat (first | refine blk_drewN ?_ _ | refine blk_drew ?_ | refine blk_alloc ?_ _)); refine blk_put (cs := #[.int .i64 t314, .int .i64 t316, .int .i64 (-1), .int .i64 0, .slice none 0 0]) ?_ 3 _ rfl; (with_reducible repeat (first | refine blk_drewN ?_ _ | refine blk_drew ?_ | refine blk_alloc ?_ _)); refine blk_put (cs := #[.int .i64 t314, .int .i64 t316, .int .i64 0, .int .i64 0, .slice none 0 0]) ?_ 2 _ rfl; (with_reducible repeat (first | refine blk_drewN ?_ _ | refine blk_drew ?_ | refine blk_alloc ?_ _)); refine blk_put (cs := #[.int .i64 t314, .int .i64 0, .int .i64 0, .int .i64 0, .slice none 0 0]) ?_ 1 _ rfl; (with_reducible repeat (first | refine blk_drewN ?_ _ | refine blk_drew ?_ | refine blk_alloc ?_ _)); refine blk_put (cs := #[.int .i64 0, .int .i64 0, .int .i64 0, .int .i64 0, .slice none 0 0]) ?_ 0 _ rfl; exact bk_ BK319⟩
               have n2_ : Aside0 (Below w.heap.size w (((((w23.setCell ⟨gb319, 0, none⟩ (.int .i64 t314)).setCell ⟨gb319, 1, none⟩ (.int .i64 t316)).setCell ⟨gb319, 2, none⟩ (.int .i64 (-1))).setCell ⟨gb319, 3, none⟩ (.int .i64 t318)).setCell ⟨gb319, 4, none⟩ (.slice none 0 0))) := ⟨bf_ HB⟩
               (try clear BK312); (try clear BK319); (try clear HB)
               generalize (((((w23.setCell ⟨gb319, 0, none⟩ (.int .i64 t314)).setCell ⟨gb319, 1, none⟩ (.int .i64 t316)).setCell ⟨gb319, 2, none⟩ (.int .i64 (-1))).setCell ⟨gb319, 3, none⟩ (.int .i64 t318)).setCell ⟨gb319, 4, none⟩ (.slice none 0 0)) = w41 at n0_ n1_ n2_ ⊢
               have BK312 := n0_; have BK319 := n1_; have HB := n2_; clear n0_ n1_ n2_; have n0_ := Aside0.mk (blk_drew BK312.out); have n1_ := Aside0.mk (blk_drew BK319.out); have n2_ := Aside0.mk (below_drew1 HB.out); clear BK312; clear BK319; clear HB; have BK312 := n0_; have BK319 := n1_; have HB := n2_; clear n0_ n1_ n2_
               obtain ⟨i043, hi043, _, hsz43, _⟩ := info_parts info5
               obtain ⟨A43, hcut43, hA43, hC43⟩ := print_mid_of (P := Try.prog) (Value.int .u8) 0 22 5 .i64 .i64 Try.underlying22 hi043 hsz43 A0 c0 l0 14 16 (by omega) (by first | omega | exact of_decide_eq_true (by first | (with_reducible assumption) | assumption)) (of_decide_eq_true (by first | (with_reducible assumption) | assumption)) HC0.out
               have HR320 := Aside0.mk (Kd.C_of_reads (h1 := fun _ => rfl) (hA43 _ (Kd.reads_of_C HR0.out)))
               have HC320 := Aside0.mk hC43
               clear hA43 hC43 hi043 hsz43
               obtain ⟨i044, hi044, _, hsz44, _⟩ := info_parts info5
               obtain ⟨A44, hcut44, hA44, hC44⟩ := print_mid_of (P := Try.prog) (Value.int .u8) 0 22 5 .i64 .i64 Try.underlying22 hi044 hsz44 A0 c0 l0 16 18 (by omega) (by first | omega | exact of_decide_eq_true (by first | (with_reducible assumption) | assumption)) (of_decide_eq_true (by first | (with_reducible assumption) | assumption)) HC0.out
               have HR322 := Aside0.mk (Kd.C_of_reads (h1 := fun _ => rfl) (hA44 _ (Kd.reads_of_C HR0.out)))
               have HC322 := Aside0.mk hC44
               clear hA44 hC44 hi044 hsz44
               refine start_ (n := 10) (S := fun w' => True) (ds := []) (bs 10 0) (by kernel_rfl) rfl rfl trivial (fun hHeld => ?_); refine with_tabW impl_EtherRead.tab9 impl_EtherRead.bits9 (fun HT_ HW_ => ?_)
               generalize w41.drew = w42 at BK312 BK319 HB HR320 HR322 hHeld ⊢
               refine pure_s (i := 0) (N := some 32) (bs 10 1) (any_of HT_.out (by kernel_rfl)) (h := ?_)
               refine pure_s (i := 1) (N := some 33) (bs 10 2) (any_of HT_.out (by kernel_rfl)) (h := ?_)
               refine pure_s (i := 3) (N := some 35) #[oT,oT,oF,oT,oF,oF,oF,oF,oF,oF] (any_of HT_.out (by kernel_rfl)) (h := ?_)
               refine pure_s (i := 4) (N := some 36) #[oT,oT,oF,oT,oT,oF,oF,oF,oF,oF] (any_of HT_.out (by kernel_rfl)) (h := ?_)
               refine one_ (i := 2) (N := some 34) (bs 10 5) rfl rfl (one_of HT_.out (by kernel_rfl)) (by decide) (fun K hK => ?_)
               refine goes_ Try.func65 (by kernel_rfl) rfl #[.slice A43 ((l0.take 16).drop 14).length (c0 - 14)] (by rfl) rfl rfl (by (try simp only [List.map_toArray, List.map_cons, List.map_nil]); first | done | (rw [show ((l0.take 16).drop 14).length = (16 - 14) from (by rw [List.length_drop, List.length_take]; have h_ : (16 : Int) ≤ (l0.length : Int) := of_decide_eq_true (by first | (with_reducible assumption) | assumption); omega)] <;> rfl) | rfl | (simp only [List.length_drop, List.length_take]; rfl)) ?_
               with_reducible refine (impl_beOf.calls k _ _ ((l0.take 16).drop 14) t321 _ ?side1 ?side2 A37.out).mono ?_
               (case side1 => repeat (first | exact (Kd.C_below HR320.out HB.out) | (with_reducible refine Kd.C_alloc ?_ _) | (with_reducible refine Kd.C_drewN ?_ _) | (with_reducible refine Kd.C_drew ?_)))
               (case side2 => exact HC320.out)
               rintro e w' ⟨rfl, ⟨nd, rfl⟩⟩
               refine ⟨_, rfl, ?_⟩
               refine hK.out _ _ trivial (fun hHeld => ?_)
               clear hK K
               refine norm_ (a' := ?_) ?_ ?_
               rotate_left
               ·show Act.put _ (some 34) _ = _
                simp only [Act.put, List.setIfInBounds_toArray, List.set_cons_zero, List.set_cons_succ, i64_w, i32_w]
                rfl
               refine pure_s (i := 6) (N := some 38) #[oT,oT,oT,oT,oT,oF,oT,oF,oF,oF] (any_of HT_.out (by kernel_rfl)) (h := ?_)
               refine one_ (i := 5) (N := some 37) (bs 10 7) rfl rfl (one_of HT_.out (by kernel_rfl)) (by decide) (fun K hK => ?_)
               refine goes_ Try.func65 (by kernel_rfl) rfl #[.slice A44 ((l0.take 18).drop 16).length (c0 - 16)] (by rfl) rfl rfl (by (try simp only [List.map_toArray, List.map_cons, List.map_nil]); first | done | (rw [show ((l0.take 18).drop 16).length = (18 - 16) from (by rw [List.length_drop, List.length_take]; have h_ : (18 : Int) ≤ (l0.length : Int) := of_decide_eq_true (by first | (with_reducible assumption) | assumption); omega)] <;> rfl) | rfl | (simp only [List.length_drop, List.length_take]; rfl)) ?_
               with_reducible refine (impl_beOf.calls k _ _ ((l0.take 18).drop 16) t323 _ ?side1 ?side2 A40.out).mono ?_
               (case side1 => repeat (first | exact (Kd.C_below HR322.out (bf_ HB)) | (with_reducible refine Kd.C_alloc ?_ _) | (with_reducible refine Kd.C_drewN ?_ _) | (with_reducible refine Kd.C_drew ?_)))
               (case side2 => exact HC322.out)
               rintro e w' ⟨rfl, ⟨nd, rfl⟩⟩
               refine ⟨_, rfl, ?_⟩
               refine hK.out _ _ trivial (fun hHeld => ?_)
               clear hK K
               refine norm_ (a' := ?_) ?_ ?_
               rotate_left
               ·show Act.put _ (some 37) _ = _
                simp only [Act.put, List.setIfInBounds_toArray, List.set_cons_zero, List.set_cons_succ, i64_w, i32_w]
                rfl
               refine one_ (i := 7) (N := none) (bs 10 8) rfl rfl (one_of HT_.out (by kernel_rfl)) (by decide) (fun K hK => ?_)
               have hs45 := bc_ BK319 2 (.int .i64 (-1)) rfl; have hfs45 := blk_frozen BK319.out 2; have hns45_0 := NB312_319.out; have hms45_0 := NB319_312.out
               refine skip_ (w1 := ?_) (by rfl) rfl ?_ ?_
               rotate_left
               ·go_simp
                rfl
               refine hK.out _ _ trivial (fun hHeld => ?_)
               clear hK K
               refine pure_s (i := 8) (N := some 39) (bs 10 9) (any_of HT_.out (by kernel_rfl)) (h := ?_)
               refine one_ (i := 9) (N := none) (bs 10 10) rfl rfl (one_of HT_.out (by kernel_rfl)) (by decide) (fun K hK => ?_)
               have hs46 := bc_ BK319 3 (.int .i64 t318) rfl; have hfs46 := blk_frozen BK319.out 3; have hns46_0 := NB312_319.out; have hms46_0 := NB319_312.out
               refine skip_ (w1 := ?_) (by rfl) rfl ?_ ?_
               rotate_left
               ·go_simp
                rfl
               refine hK.out _ _ trivial (fun hHeld => ?_)
               clear hK K
               refine done_ (done_of HT_.out (by kernel_rfl)) ?_
               try go_wp2
               go_meet
               case rel => exact ⟨_, (0), (0), (0), (0), (t321), (t323), H', ⟨by first | omega | exact Nat.le_refl _⟩, ⟨by (with_reducible repeat (first | refine blk_drewN ?_ _ | refine blk_drew ?_ | refine blk_alloc ?_ _)); refine blk_far ?_ NB312_319.out _; (with_reducible repeat (first | refine blk_drewN ?_ _ | refine blk_drew ?_ | refine blk_alloc ?_ _)); refine blk_far ?_ NB312_319.out _; exact bk_ BK312⟩, ⟨by (with_reducible repeat (first | refine blk_drewN ?_ _ | refine blk_drew ?_ | refine blk_alloc ?_ _)); refine blk_put (cs := #[.int .i64 t314, .int .i64 t316, .int .i64 t321, .int .i64 t318, .slice none 0 0]) ?_ 3 _ rfl; (with_reducible repeat (first | refine blk_drewN ?_ _ | refine blk_drew ?_ | refine blk_alloc ?_ _)); refine blk_put (cs := #[.int .i64 t314, .int .i64 t316, .int .i64 (-1), .int .i64 t318, .slice none 0 0]) ?_ 2 _ rfl; exact bk_ BK319⟩, ⟨bf_ HB⟩⟩
              ·rw [if_neg c39] at H
               exact absurd H (by simp)
             ·rw [if_neg c38] at H
              exact absurd H (by simp)
            ·rw [if_neg c36] at H
             exact absurd H (by simp)
           ·rw [if_neg c35] at H
            exact absurd H (by simp)
         ·rw [if_neg c31] at H
          have c31b0 : (t318 == 33024) = false := beq_eq_false_iff_ne.mpr c31
          have c31b1 : (t318 != 33024) = true := bne_iff_ne.mpr c31
          (first | rw [c31b0] | (simp only [i64_w, i32_w]; rw [c31b0]) | skip)
          have H' := Aside0.mk H
          clear H
          go_wp2
          go_meet
          case rel => exact ⟨_, (0), (0), (0), (0), ((-1)), (t318), H', ⟨by first | omega | exact Nat.le_refl _⟩, ⟨by (with_reducible repeat (first | refine blk_drewN ?_ _ | refine blk_drew ?_ | refine blk_alloc ?_ _)); refine blk_far ?_ NB312_319.out _; (with_reducible repeat (first | refine blk_drewN ?_ _ | refine blk_drew ?_ | refine blk_alloc ?_ _)); refine blk_far ?_ NB312_319.out _; (with_reducible repeat (first | refine blk_drewN ?_ _ | refine blk_drew ?_ | refine blk_alloc ?_ _)); refine blk_far ?_ NB312_319.out _; (with_reducible repeat (first | refine blk_drewN ?_ _ | refine blk_drew ?_ | refine blk_alloc ?_ _)); refine blk_far ?_ NB312_319.out _; (with_reducible repeat (first | refine blk_drewN ?_ _ | refine blk_drew ?_ | refine blk_alloc ?_ _)); refine blk_far ?_ NB312_319.out _; exact bk_ BK312⟩, ⟨by (with_reducible repeat (first | refine blk_drewN ?_ _ | refine blk_drew ?_ | refine blk_alloc ?_ _)); refine blk_put (cs := #[.int .i64 t314, .int .i64 t316, .int .i64 (-1), .int .i64 t318, .slice none 0 0]) ?_ 4 _ rfl; (with_reducible repeat (first | refine blk_drewN ?_ _ | refine blk_drew ?_ | refine blk_alloc ?_ _)); refine blk_put (cs := #[.int .i64 t314, .int .i64 t316, .int .i64 (-1), .int .i64 0, .slice none 0 0]) ?_ 3 _ rfl; (with_reducible repeat (first | refine blk_drewN ?_ _ | refine blk_drew ?_ | refine blk_alloc ?_ _)); refine blk_put (cs := #[.int .i64 t314, .int .i64 t316, .int .i64 0, .int .i64 0, .slice none 0 0]) ?_ 2 _ rfl; (with_reducible repeat (first | refine blk_drewN ?_ _ | refine blk_drew ?_ | refine blk_alloc ?_ _)); refine blk_put (cs := #[.int .i64 t314, .int .i64 0, .int .i64 0, .int .i64 0, .slice none 0 0]) ?_ 1 _ rfl; (with_reducible repeat (first | refine blk_drewN ?_ _ | refine blk_drew ?_ | refine blk_alloc ?_ _)); refine blk_put (cs := #[.int .i64 0, .int .i64 0, .int .i64 0, .int .i64 0, .slice none 0 0]) ?_ 0 _ rfl; exact bk_ BK319⟩, ⟨bf_ HB⟩⟩
        case rest =>
         clear HC16; (try clear c2); (try clear p2); (try clear c3); (try clear c6); (try clear c29); (try clear c31); (try clear c31b0); (try clear c31b1); (try clear c32); (try clear c32b0); (try clear c32b1); (try clear c33); (try clear c35); (try clear c35b0); (try clear c35b1); (try clear c36); (try clear c36b0); (try clear c36b1); (try clear c38); (try clear c38b0); (try clear c38b1); (try clear c39); (try clear c39b0); (try clear c39b1); (try clear hcz30_0 hcz30_1 hcz30_2 hcz30_3 hcz30_4 hfz30_0 hfz30_1 hfz30_2 hfz30_3 hfz30_4); (try clear hcz34_0 hcz34_1 hcz34_2 hcz34_3 hcz34_4 hfz34_0 hfz34_1 hfz34_2 hfz34_3 hfz34_4)
         obtain ⟨kq, x313000_15, x313001_15, x313002_15, x313003_15, x320002_15, x320003_15, HA, HJ15, BK312, BK319, HB⟩ := hcut
         cases kq with
         | zero => exact absurd HA.out (by simp [impl_EtherRead.j0])
         | succ kj15 =>
          have H := HA.out
          clear HA
          simp only [impl_EtherRead.j0] at H
          replace H := Option.bind_eq_some_iff.mp H
          obtain ⟨t324, A470, H⟩ := H
          replace H : (if t324 = true then ((impl_headOf.f t314 t316 x320002_15 x320003_15 ([] : List Int)).bind fun t325 => (if 0 ≤ t325 then (if t325 ≤ (l0.length : Int) then ((slices_Clone_byte_byte.f (l0.drop (t325 : Int).toNat)).bind fun t327 => (some (t314, t316, x320002_15, x320003_15, t327, 0))) else (none)) else (none))) else (some (0, 0, 0, 0, ([] : List Int), 4))) = some (r1, r2, r3, r4, r5, r6) := H
          have A47 := Aside0.mk A470
          clear A470
          by_cases c48 : t324 = true
          ·subst c48
           have H1 : ((impl_headOf.f t314 t316 x320002_15 x320003_15 ([] : List Int)).bind fun t325 => (if 0 ≤ t325 then (if t325 ≤ (l0.length : Int) then ((slices_Clone_byte_byte.f (l0.drop (t325 : Int).toNat)).bind fun t327 => (some (t314, t316, x320002_15, x320003_15, t327, 0))) else (none)) else (none))) = some (r1, r2, r3, r4, r5, r6) := by rw [if_pos rfl] at H; exact H
           clear H
           have H := H1
           clear H1
           replace H := Option.bind_eq_some_iff.mp H
           obtain ⟨t325, A490, H⟩ := H
           replace H : (if 0 ≤ t325 then (if t325 ≤ (l0.length : Int) then ((slices_Clone_byte_byte.f (l0.drop (t325 : Int).toNat)).bind fun t327 => (some (t314, t316, x320002_15, x320003_15, t327, 0))) else (none)) else (none)) = some (r1, r2, r3, r4, r5, r6) := H
           have A49 := Aside0.mk A490
           clear A490
           by_cases c50 : 0 ≤ t325
           ·rw [if_pos c50] at H
            have c50b0 := eq_true c50
            have c50b1 : decide (0 ≤ t325) = true := decide_eq_true c50
            clear c50
            by_cases c51 : t325 ≤ (l0.length : Int)
            ·rw [if_pos c51] at H
             have c51b0 := eq_true c51
             have c51b1 : decide (t325 ≤ (l0.length : Int)) = true := decide_eq_true c51
             clear c51
             replace H := Option.bind_eq_some_iff.mp H
             obtain ⟨t327, A520, H⟩ := H
             replace H : (some (t314, t316, x320002_15, x320003_15, t327, 0)) = some (r1, r2, r3, r4, r5, r6) := H
             have A52 := Aside0.mk A520
             clear A520
             simp only [Option.some.injEq, Prod.mk.injEq] at H
             obtain ⟨rfl, rfl, rfl, rfl, rfl, rfl⟩ := H
             have hnb53 := NB319_312.out; have hnc53 := NB312_319.out; have hcz54_0 := bc_ BK319 0 (.int .i64 t314) rfl; have hcz54_1 := bc_ BK319 1 (.int .i64 t316) rfl; have hcz54_2 := bc_ BK319 2 (.int .i64 x320002_15) rfl; have hcz54_3 := bc_ BK319 3 (.int .i64 x320003_15) rfl; have hcz54_4 := bc_ BK319 4 (.slice none 0 0) rfl; have hfz54_0 := blk_frozen BK319.out 0; have hfz54_1 := blk_frozen BK319.out 1; have hfz54_2 := blk_frozen BK319.out 2; have hfz54_3 := blk_frozen BK319.out 3; have hfz54_4 := blk_frozen BK319.out 4
             go_wp2_with (first | ((with_reducible refine gate_callee (f := 66) rfl ?_); refine goesL_ (some 42) rfl rfl Try.func66 (by kernel_rfl) rfl #[.int .i64 x320003_15] rfl mt_ ?_; (with_reducible refine (impl_isKind.calls x320003_15 true _ A47.out).mono ?_); rintro e w' ⟨rfl, ⟨nd, rfl⟩⟩; refine ⟨_, rfl, ?_⟩; (try (rw [drewN_self wc]; generalize hq_ : World.drewN wc _ = wc; have n0_ : Aside0 (wc.heap[gb312]? = some (.cells #[.int .i64 x313000_15, .int .i64 x313001_15, .int .i64 x313002_15, .int .i64 x313003_15, .slice none 0 0] 32 (0, 0))) := ⟨by rw [← hq_]; exact (bk_ BK312)⟩; have n1_ : Aside0 (wc.heap[gb319]? = some (.cells #[.int .i64 t314, .int .i64 t316, .int .i64 x320002_15, .int .i64 x320003_15, .slice none 0 0] 32 (0, 0))) := ⟨by rw [← hq_]; exact (bk_ BK319)⟩; have n2_ : Aside0 (Below w.heap.size w wc) := ⟨by rw [← hq_]; exact (bf_ HB)⟩; clear BK312 BK319 HB hq_; have BK312 := n0_; have BK319 := n1_; have HB := n2_; clear n0_ n1_ n2_; have hcs312_0 := bc_ BK312 0 (.int .i64 x313000_15) rfl; have hfs312_0 := blk_frozen BK312.out 0; have hcs312_1 := bc_ BK312 1 (.int .i64 x313001_15) rfl; have hfs312_1 := blk_frozen BK312.out 1; have hcs312_2 := bc_ BK312 2 (.int .i64 x313002_15) rfl; have hfs312_2 := blk_frozen BK312.out 2; have hcs312_3 := bc_ BK312 3 (.int .i64 x313003_15) rfl; have hfs312_3 := blk_frozen BK312.out 3; have hcs312_4 := bc_ BK312 4 (.slice none 0 0) rfl; have hfs312_4 := blk_frozen BK312.out 4; have hcs319_0 := bc_ BK319 0 (.int .i64 t314) rfl; have hfs319_0 := blk_frozen BK319.out 0; have hcs319_1 := bc_ BK319 1 (.int .i64 t316) rfl; have hfs319_1 := blk_frozen BK319.out 1; have hcs319_2 := bc_ BK319 2 (.int .i64 x320002_15) rfl; have hfs319_2 := blk_frozen BK319.out 2; have hcs319_3 := bc_ BK319 3 (.int .i64 x320003_15) rfl; have hfs319_3 := blk_frozen BK319.out 3; have hcs319_4 := bc_ BK319 4 (.slice none 0 0) rfl; have hfs319_4 := blk_frozen BK319.out 4))) | ((with_reducible refine gate_callee (f := 68) rfl ?_); refine goesL_ (some 47) rfl rfl Try.func68 (by kernel_rfl) rfl #[.agg #[.int .i64 t314, .int .i64 t316, .int .i64 x320002_15, .int .i64 x320003_15, .slice none 0 0]] rfl mt_ ?_; (refine (impl_headOf.calls t314 t316 x320002_15 x320003_15 _ _ ([] : List Int) t325 _ ?side1 ?side2 A49.out).mono ?_); (case side1 => exact Kd.C_nil _ _); (case side2 => exact Nat.le_refl _); rintro e w55 ⟨rfl, hb⟩; refine ⟨_, rfl, ?_⟩; have n0_ := bb_ BK312 hb; have n1_ := bb_ BK319 hb; have n2_ := Aside0.mk (below_step (bf_ HB) hb); clear BK312; clear BK319; clear HB; have BK312 := n0_; have BK319 := n1_; have HB := n2_; clear n0_ n1_ n2_; (try clear hb); (try clear hb2); (try clear hk); (try clear hi); obtain ⟨i056, hi056, _, hsz56, _⟩ := info_parts info5; obtain ⟨A56, hcut56, hA56, hC56⟩ := print_drop_of (P := Try.prog) (Value.int .u8) 0 22 5 .i64 Try.underlying22 hi056 hsz56 A0 c0 l0 t325 (of_decide_eq_true (by first | (with_reducible assumption) | assumption)) (of_decide_eq_true (by first | (with_reducible assumption) | assumption)) HC0.out; have HR326 := Aside0.mk (Kd.C_of_reads (h1 := fun _ => rfl) (hA56 _ (Kd.reads_of_C HR0.out))); have HC326 := Aside0.mk hC56; clear hA56 hC56 hi056 hsz56) | ((with_reducible refine gate_callee (f := 67) rfl ?_); refine goesL_ (some 49) rfl rfl Try.func67 (by kernel_rfl) rfl #[.slice A56 (l0.drop (t325 : Int).toNat).length (c0 - t325.toNat)] rfl (by (try simp only [List.map_toArray, List.map_cons, List.map_nil]); first | done | (rw [show (l0.drop (t325 : Int).toNat).length = (l0.length - t325.toNat) from List.length_drop] <;> rfl) | rfl | (simp only [List.length_drop, List.length_take]; rfl)) ?_; (with_reducible refine (slices_Clone_byte_byte.calls _ _ (l0.drop (t325 : Int).toNat) t327 _ ?side1 ?side2 A52.out).mono ?_); (case side1 => repeat (first | exact (Kd.C_below HR326.out HB.out) | (with_reducible refine Kd.C_alloc ?_ _) | (with_reducible refine Kd.C_drewN ?_ _) | (with_reducible refine Kd.C_drew ?_))); (case side2 => exact HC326.out); rintro e w57 ⟨v328, rfl, ho0, hb⟩; refine ⟨_, rfl, ?_⟩; have n0_ := Aside0.mk (Kd.R_lower ho0 (below_size (bf_ HB))); have n1_ := bb_ BK312 hb; have n2_ := bb_ BK319 hb; have n3_ := Aside0.mk (below_step (bf_ HB) hb); clear BK312; clear BK319; clear HB; have HO329 := n0_; have BK312 := n1_; have BK319 := n2_; have HB := n3_; clear n0_ n1_ n2_ n3_; (try clear hb); (try clear hb2); (try clear hk); (try clear hi); (try clear ho0); obtain ⟨Ao58, co58, eo58⟩ := Kd.R_slice HO329.out; subst eo58; have hcz59_0 := bc_ BK319 0 (.int .i64 t314) rfl; have hcz59_1 := bc_ BK319 1 (.int .i64 t316) rfl; have hcz59_2 := bc_ BK319 2 (.int .i64 x320002_15) rfl; have hcz59_3 := bc_ BK319 3 (.int .i64 x320003_15) rfl; have hcz59_4 := bc_ BK319 4 (.slice none 0 0) rfl; have hfz59_0 := blk_frozen BK319.out 0; have hfz59_1 := blk_frozen BK319.out 1; have hfz59_2 := blk_frozen BK319.out 2; have hfz59_3 := blk_frozen BK319.out 3; have hfz59_4 := blk_frozen BK319.out 4; have hcz60_0 := bc_ BK312 0 (.int .i64 x313000_15) rfl; have hcz60_1 := bc_ BK312 1 (.int .i64 x313001_15) rfl; have hcz60_2 := bc_ BK312 2 (.int .i64 x313002_15) rfl; have hcz60_3 := bc_ BK312 3 (.int .i64 x313003_15) rfl; have hcz60_4 := bc_ BK312 4 (.slice none 0 0) rfl; have hfz60_0 := blk_frozen BK312.out 0; have hfz60_1 := blk_frozen BK312.out 1; have hfz60_2 := blk_frozen BK312.out 2; have hfz60_3 := blk_frozen BK312.out 3; have hfz60_4 := blk_frozen BK312.out 4))
             refine bodyPost_ret (results_ct rfl _ _ gb312 32 #[.int .i64 t314, .int .i64 t316, .int .i64 x320002_15, .int .i64 x320003_15, .slice Ao58 t327.length co58] (0, 0) _ rfl (by (with_reducible repeat (first | refine blk_drewN ?_ _ | refine blk_drew ?_ | refine blk_alloc ?_ _)); refine blk_put (cs := #[.int .i64 t314, .int .i64 t316, .int .i64 x320002_15, .int .i64 x320003_15, .slice none 0 0]) ?_ 4 _ rfl; (with_reducible repeat (first | refine blk_drewN ?_ _ | refine blk_drew ?_ | refine blk_alloc ?_ _)); refine blk_put (cs := #[.int .i64 t314, .int .i64 t316, .int .i64 x320002_15, .int .i64 x313003_15, .slice none 0 0]) ?_ 3 _ rfl; (with_reducible repeat (first | refine blk_drewN ?_ _ | refine blk_drew ?_ | refine blk_alloc ?_ _)); refine blk_put (cs := #[.int .i64 t314, .int .i64 t316, .int .i64 x313002_15, .int .i64 x313003_15, .slice none 0 0]) ?_ 2 _ rfl; (with_reducible repeat (first | refine blk_drewN ?_ _ | refine blk_drew ?_ | refine blk_alloc ?_ _)); refine blk_put (cs := #[.int .i64 t314, .int .i64 x313001_15, .int .i64 x313002_15, .int .i64 x313003_15, .slice none 0 0]) ?_ 1 _ rfl; (with_reducible repeat (first | refine blk_drewN ?_ _ | refine blk_drew ?_ | refine blk_alloc ?_ _)); refine blk_put (cs := #[.int .i64 x313000_15, .int .i64 x313001_15, .int .i64 x313002_15, .int .i64 x313003_15, .slice none 0 0]) ?_ 0 _ rfl; (with_reducible repeat (first | refine blk_drewN ?_ _ | refine blk_drew ?_ | refine blk_alloc ?_ _)); refine blk_far ?_ NB312_319.out _; exact bk_ BK312) Try.underlying32 rfl (by kernel_rfl)) rfl ?_
             exact ⟨_, by first | rfl | (simp [errW_none, errW_some] <;> rfl) | (simp [*, errW_none, errW_some] <;> rfl), by (with_reducible repeat (first | apply Kd.R_alloc | apply Kd.R_drewN | apply Kd.R_drew)); exact Kd.R_mono (Kd.R_far (p := ⟨gb312, 4, none⟩) (Kd.R_far (p := ⟨gb312, 3, none⟩) (Kd.R_far (p := ⟨gb312, 2, none⟩) (Kd.R_far (p := ⟨gb312, 1, none⟩) (Kd.R_far (p := ⟨gb312, 0, none⟩) (Kd.R_far (p := ⟨gb319, 4, none⟩) (Kd.R_types (Kd.R_types HO329.out BK319.out (by decide)) BK312.out (by decide)) (fun _ hk => by first | exact hk.1.2 | grind) (.slice Ao58 t327.length co58)) (fun _ hk => by first | exact hk.2 | grind) (.int .i64 t314)) (fun _ hk => by first | exact hk.2 | grind) (.int .i64 t316)) (fun _ hk => by first | exact hk.2 | grind) (.int .i64 x320002_15)) (fun _ hk => by first | exact hk.2 | grind) (.int .i64 x320003_15)) (fun _ hk => by first | exact hk.2 | grind) (.slice Ao58 t327.length co58)) (fun _ hk => by first | exact trivial | grind), bf_ HB⟩
            ·rw [if_neg c51] at H
             exact absurd H (by simp)
           ·rw [if_neg c50] at H
            exact absurd H (by simp)
          ·replace c48 := Bool.eq_false_iff.mpr c48
           subst c48
           have H1 : (some (0, 0, 0, 0, ([] : List Int), 4)) = some (r1, r2, r3, r4, r5, r6) := by rw [if_neg (show ¬ (false = true) by decide)] at H; exact H
           clear H
           have H := H1
           clear H1
           simp only [Option.some.injEq, Prod.mk.injEq] at H
           obtain ⟨rfl, rfl, rfl, rfl, rfl, rfl⟩ := H
           have hnb61 := NB319_312.out; have hnc61 := NB312_319.out; have hcz62_0 := bc_ BK319 0 (.int .i64 t314) rfl; have hcz62_1 := bc_ BK319 1 (.int .i64 t316) rfl; have hcz62_2 := bc_ BK319 2 (.int .i64 x320002_15) rfl; have hcz62_3 := bc_ BK319 3 (.int .i64 x320003_15) rfl; have hcz62_4 := bc_ BK319 4 (.slice none 0 0) rfl; have hfz62_0 := blk_frozen BK319.out 0; have hfz62_1 := blk_frozen BK319.out 1; have hfz62_2 := blk_frozen BK319.out 2; have hfz62_3 := blk_frozen BK319.out 3; have hfz62_4 := blk_frozen BK319.out 4
           go_wp2_with (first | ((with_reducible refine gate_callee (f := 66) rfl ?_); refine goesL_ (some 42) rfl rfl Try.func66 (by kernel_rfl) rfl #[.int .i64 x320003_15] rfl mt_ ?_; (with_reducible refine (impl_isKind.calls x320003_15 false _ A47.out).mono ?_); rintro e w' ⟨rfl, ⟨nd, rfl⟩⟩; refine ⟨_, rfl, ?_⟩; (try (rw [drewN_self wc]; generalize hq_ : World.drewN wc _ = wc; have n0_ : Aside0 (wc.heap[gb312]? = some (.cells #[.int .i64 x313000_15, .int .i64 x313001_15, .int .i64 x313002_15, .int .i64 x313003_15, .slice none 0 0] 32 (0, 0))) := ⟨by rw [← hq_]; exact (bk_ BK312)⟩; have n1_ : Aside0 (wc.heap[gb319]? = some (.cells #[.int .i64 t314, .int .i64 t316, .int .i64 x320002_15, .int .i64 x320003_15, .slice none 0 0] 32 (0, 0))) := ⟨by rw [← hq_]; exact (bk_ BK319)⟩; have n2_ : Aside0 (Below w.heap.size w wc) := ⟨by rw [← hq_]; exact (bf_ HB)⟩; clear BK312 BK319 HB hq_; have BK312 := n0_; have BK319 := n1_; have HB := n2_; clear n0_ n1_ n2_; have hcs312_0 := bc_ BK312 0 (.int .i64 x313000_15) rfl; have hfs312_0 := blk_frozen BK312.out 0; have hcs312_1 := bc_ BK312 1 (.int .i64 x313001_15) rfl; have hfs312_1 := blk_frozen BK312.out 1; have hcs312_2 := bc_ BK312 2 (.int .i64 x313002_15) rfl; have hfs312_2 := blk_frozen BK312.out 2; have hcs312_3 := bc_ BK312 3 (.int .i64 x313003_15) rfl; have hfs312_3 := blk_frozen BK312.out 3; have hcs312_4 := bc_ BK312 4 (.slice none 0 0) rfl; have hfs312_4 := blk_frozen BK312.out 4; have hcs319_0 := bc_ BK319 0 (.int .i64 t314) rfl; have hfs319_0 := blk_frozen BK319.out 0; have hcs319_1 := bc_ BK319 1 (.int .i64 t316) rfl; have hfs319_1 := blk_frozen BK319.out 1; have hcs319_2 := bc_ BK319 2 (.int .i64 x320002_15) rfl; have hfs319_2 := blk_frozen BK319.out 2; have hcs319_3 := bc_ BK319 3 (.int .i64 x320003_15) rfl; have hfs319_3 := blk_frozen BK319.out 3; have hcs319_4 := bc_ BK319 4 (.slice none 0 0) rfl; have hfs319_4 := blk_frozen BK319.out 4)); have hcz63_0 := bc_ BK312 0 (.int .i64 x313000_15) rfl; have hcz63_1 := bc_ BK312 1 (.int .i64 x313001_15) rfl; have hcz63_2 := bc_ BK312 2 (.int .i64 x313002_15) rfl; have hcz63_3 := bc_ BK312 3 (.int .i64 x313003_15) rfl; have hcz63_4 := bc_ BK312 4 (.slice none 0 0) rfl; have hfz63_0 := blk_frozen BK312.out 0; have hfz63_1 := blk_frozen BK312.out 1; have hfz63_2 := blk_frozen BK312.out 2; have hfz63_3 := blk_frozen BK312.out 3; have hfz63_4 := blk_frozen BK312.out 4))
           refine bodyPost_ret (results_ct rfl _ _ gb312 32 #[.int .i64 0, .int .i64 0, .int .i64 0, .int .i64 0, .slice none 0 0] (0, 0) _ rfl (by (with_reducible repeat (first | refine blk_drewN ?_ _ | refine blk_drew ?_ | refine blk_alloc ?_ _)); refine blk_put (cs := #[.int .i64 0, .int .i64 0, .int .i64 0, .int .i64 0, .slice none 0 0]) ?_ 4 _ rfl; (with_reducible repeat (first | refine blk_drewN ?_ _ | refine blk_drew ?_ | refine blk_alloc ?_ _)); refine blk_put (cs := #[.int .i64 0, .int .i64 0, .int .i64 0, .int .i64 x313003_15, .slice none 0 0]) ?_ 3 _ rfl; (with_reducible repeat (first | refine blk_drewN ?_ _ | refine blk_drew ?_ | refine blk_alloc ?_ _)); refine blk_put (cs := #[.int .i64 0, .int .i64 0, .int .i64 x313002_15, .int .i64 x313003_15, .slice none 0 0]) ?_ 2 _ rfl; (with_reducible repeat (first | refine blk_drewN ?_ _ | refine blk_drew ?_ | refine blk_alloc ?_ _)); refine blk_put (cs := #[.int .i64 0, .int .i64 x313001_15, .int .i64 x313002_15, .int .i64 x313003_15, .slice none 0 0]) ?_ 1 _ rfl; (with_reducible repeat (first | refine blk_drewN ?_ _ | refine blk_drew ?_ | refine blk_alloc ?_ _)); refine blk_put (cs := #[.int .i64 x313000_15, .int .i64 x313001_15, .int .i64 x313002_15, .int .i64 x313003_15, .slice none 0 0]) ?_ 0 _ rfl; exact bk_ BK312) Try.underlying32 rfl (by kernel_rfl)) rfl ?_
           exact ⟨_, by first | rfl | (simp [errW_none, errW_some] <;> rfl) | (simp [*, errW_none, errW_some] <;> rfl), by first | exact Kd.R_nil _ _ _ _ _ | exact Kd.N_nil _ _ _ _ _ | exact Kd.V_nil _ _ _ _ _ | exact Kd.Q_nil _ _ _ _ _ | exact Kd.S_nil _ _ _ _ _, bf_ HB⟩
       ·rw [if_neg c14] at H
        exact absurd H (by simp)
      ·rw [if_neg c13] at H
       exact absurd H (by simp)
     ·rw [if_neg c11] at H
      exact absurd H (by simp)
    ·rw [if_neg c10] at H
     exact absurd H (by simp)
   ·rw [if_neg c8] at H
    exact absurd H (by simp)

/-! ### laws_sameEther: function 17 -/
def laws_sameEther.f (a0_0 : Int) (a0_1 : Int) (a0_2 : Int) (a0_3 : Int) (l0_4 : List Int) (a1_0 : Int) (a1_1 : Int) (a1_2 : Int) (a1_3 : Int) (l1_4 : List Int) : Option (Bool) := if a0_0 = a1_0 then (if a0_1 = a1_1 then (if a0_2 = a1_2 then (if a0_3 = a1_3 then (some ((strOfNums l0_4).toList == (strOfNums l1_4).toList)) else (some false)) else (some false)) else (some false)) else (some false)
set_option maxHeartbeats 8000000 in
set_option maxRecDepth 100000 in
theorem laws_sameEther.calls (a0_0 : Int) (a0_1 : Int) (a0_2 : Int) (a0_3 : Int) (A0_4 : Option Addr) (c0_4 : Nat) (l0_4 : List Int) (a1_0 : Int) (a1_1 : Int) (a1_2 : Int) (a1_3 : Int) (A1_4 : Option Addr) (c1_4 : Nat) (l1_4 : List Int) (r : Bool) (w : World) (hr0_4 : Kd.C (Kd.int .u8) w A0_4 l0_4.length l0_4) (hc0_4 : l0_4.length ≤ c0_4) (hr1_4 : Kd.C (Kd.int .u8) w A1_4 l1_4.length l1_4) (hc1_4 : l1_4.length ≤ c1_4) (h : laws_sameEther.f a0_0 a0_1 a0_2 a0_3 l0_4 a1_0 a1_1 a1_2 a1_3 l1_4 = some r) :
  Calls Try.prog 17 #[.agg #[.int .i64 a0_0, .int .i64 a0_1, .int .i64 a0_2, .int .i64 a0_3, .slice A0_4 l0_4.length c0_4], .agg #[.int .i64 a1_0, .int .i64 a1_1, .int .i64 a1_2, .int .i64 a1_3, .slice A1_4 l1_4.length c1_4]] w fun e w' => e = .returned (.bool r) ∧ Below w.heap.size w w' := by
 have hu32 := Try.underlying32
 have HR0_4 := Aside0.mk hr0_4
 have HC0_4 := Aside0.mk hc0_4
 clear hr0_4 hc0_4
 have HR1_4 := Aside0.mk hr1_4
 have HC1_4 := Aside0.mk hc1_4
 clear hr1_4 hc1_4; have HB := Aside0.mk (Below.refl w.heap.size w)
 have H : (if a0_0 = a1_0 then (if a0_1 = a1_1 then (if a0_2 = a1_2 then (if a0_3 = a1_3 then (some ((strOfNums l0_4).toList == (strOfNums l1_4).toList)) else (some false)) else (some false)) else (some false)) else (some false)) = some r := h
 clear h
 by_cases c3 : a0_0 = a1_0
 ·rw [if_pos c3] at H
  have c3b0 : (a0_0 == a1_0) = true := beq_iff_eq.mpr c3
  have c3b1 : (a0_0 != a1_0) = false := bne_eq_false_iff_eq.mpr c3
  clear c3
  by_cases c4 : a0_1 = a1_1
  ·rw [if_pos c4] at H
   have c4b0 : (a0_1 == a1_1) = true := beq_iff_eq.mpr c4
   have c4b1 : (a0_1 != a1_1) = false := bne_eq_false_iff_eq.mpr c4
   clear c4
   by_cases c5 : a0_2 = a1_2
   ·rw [if_pos c5] at H
    have c5b0 : (a0_2 == a1_2) = true := beq_iff_eq.mpr c5
    have c5b1 : (a0_2 != a1_2) = false := bne_eq_false_iff_eq.mpr c5
    clear c5
    by_cases c6 : a0_3 = a1_3
    ·rw [if_pos c6] at H
     have c6b0 : (a0_3 == a1_3) = true := beq_iff_eq.mpr c6
     have c6b1 : (a0_3 != a1_3) = false := bne_eq_false_iff_eq.mpr c6
     clear c6
     obtain rfl := Option.some.inj H
     go_enter Try.func17, Try.ntmps17
     go_wp2_with (first | ((with_reducible refine gate_dst (N := 2) rfl ?_); refine box_event ?hg (N := 2) ?hd (cs := #[.int .i64 a0_0, .int .i64 a0_1, .int .i64 a0_2, .int .i64 a0_3, .slice A0_4 l0_4.length c0_4]) (t := 32) ?hr ?_; (case hd => rfl); (case hg => rfl); (case hr => first | (go_simp; done) | (go_simp; rfl)); intro gb330 hg w7 hbox hb; have n0_ := Aside0.mk (below_step (be_ HB) hb); have n1_ := Aside0.mk (hbox); have n2_ := gw_ HB hg; have n3_ := gw_ HB hg; clear HB; have HB := n0_; have BK330 := n1_; have GW330 := n2_; have GE330 := n3_; clear n0_ n1_ n2_ n3_; clear hb hbox hg) | ((with_reducible refine gate_dst (N := 3) rfl ?_); refine box_event ?hg (N := 3) ?hd (cs := #[.int .i64 a1_0, .int .i64 a1_1, .int .i64 a1_2, .int .i64 a1_3, .slice A1_4 l1_4.length c1_4]) (t := 32) ?hr ?_; (case hd => rfl); (case hg => rfl); (case hr => first | (go_simp; done) | (go_simp; rfl)); intro gb331 hg w8 hbox hb; have n0_ := bb_ BK330 hb; have n1_ := Aside0.mk (below_step (bf_ HB) hb); have n2_ := Aside0.mk (hbox); have n3_ := gw_ HB hg; have n4_ := gw_ HB hg; have n5_ := nl_ BK330 hg; have n6_ := ng_ BK330 hg; clear BK330; clear HB; have BK330 := n0_; have HB := n1_; have BK331 := n2_; have GW331 := n3_; have GE331 := n4_; have NB330_331 := n5_; have NB331_330 := n6_; clear n0_ n1_ n2_ n3_ n4_ n5_ n6_; clear hb hbox hg; have hnb9 := NB330_331.out; have hnc9 := NB331_330.out; have hcz10_0 := bc_ BK330 0 (.int .i64 a0_0) rfl; have hcz10_1 := bc_ BK330 1 (.int .i64 a0_1) rfl; have hcz10_2 := bc_ BK330 2 (.int .i64 a0_2) rfl; have hcz10_3 := bc_ BK330 3 (.int .i64 a0_3) rfl; have hcz10_4 := bc_ BK330 4 (.slice A0_4 l0_4.length c0_4) rfl; have hfz10_0 := blk_frozen BK330.out 0; have hfz10_1 := blk_frozen BK330.out 1; have hfz10_2 := blk_frozen BK330.out 2; have hfz10_3 := blk_frozen BK330.out 3; have hfz10_4 := blk_frozen BK330.out 4; have hcz11_0 := bc_ BK331 0 (.int .i64 a1_0) rfl; have hcz11_1 := bc_ BK331 1 (.int .i64 a1_1) rfl; have hcz11_2 := bc_ BK331 2 (.int .i64 a1_2) rfl; have hcz11_3 := bc_ BK331 3 (.int .i64 a1_3) rfl; have hcz11_4 := bc_ BK331 4 (.slice A1_4 l1_4.length c1_4) rfl; have hfz11_0 := blk_frozen BK331.out 0; have hfz11_1 := blk_frozen BK331.out 1; have hfz11_2 := blk_frozen BK331.out 2; have hfz11_3 := blk_frozen BK331.out 3; have hfz11_4 := blk_frozen BK331.out 4; have hcv12 := Kd.C_string (P := Try.prog) (A := A0_4) (c := c0_4) Try.underlying22 Try.underlying5 Try.underlying9 (Kd.C_below HR0_4.out HB.out); have hcv13 := Kd.C_string (P := Try.prog) (A := A1_4) (c := c1_4) Try.underlying22 Try.underlying5 Try.underlying9 (Kd.C_below HR1_4.out HB.out)))
     go_ret
     exact ⟨by first | rfl | (simp [errW_none, errW_some] <;> rfl) | (simp [*, errW_none, errW_some] <;> rfl), bf_ HB⟩
    ·rw [if_neg c6] at H
     have c6b0 : (a0_3 == a1_3) = false := beq_eq_false_iff_ne.mpr c6
     have c6b1 : (a0_3 != a1_3) = true := bne_iff_ne.mpr c6
     obtain rfl := Option.some.inj H
     go_enter Try.func17, Try.ntmps17
     go_wp2_with (first | ((with_reducible refine gate_dst (N := 2) rfl ?_); refine box_event ?hg (N := 2) ?hd (cs := #[.int .i64 a0_0, .int .i64 a0_1, .int .i64 a0_2, .int .i64 a0_3, .slice A0_4 l0_4.length c0_4]) (t := 32) ?hr ?_; (case hd => rfl); (case hg => rfl); (case hr => first | (go_simp; done) | (go_simp; rfl)); intro gb330 hg w14 hbox hb; have n0_ := Aside0.mk (below_step (be_ HB) hb); have n1_ := Aside0.mk (hbox); have n2_ := gw_ HB hg; have n3_ := gw_ HB hg; clear HB; have HB := n0_; have BK330 := n1_; have GW330 := n2_; have GE330 := n3_; clear n0_ n1_ n2_ n3_; clear hb hbox hg) | ((with_reducible refine gate_dst (N := 3) rfl ?_); refine box_event ?hg (N := 3) ?hd (cs := #[.int .i64 a1_0, .int .i64 a1_1, .int .i64 a1_2, .int .i64 a1_3, .slice A1_4 l1_4.length c1_4]) (t := 32) ?hr ?_; (case hd => rfl); (case hg => rfl); (case hr => first | (go_simp; done) | (go_simp; rfl)); intro gb331 hg w15 hbox hb; have n0_ := bb_ BK330 hb; have n1_ := Aside0.mk (below_step (bf_ HB) hb); have n2_ := Aside0.mk (hbox); have n3_ := gw_ HB hg; have n4_ := gw_ HB hg; have n5_ := nl_ BK330 hg; have n6_ := ng_ BK330 hg; clear BK330; clear HB; have BK330 := n0_; have HB := n1_; have BK331 := n2_; have GW331 := n3_; have GE331 := n4_; have NB330_331 := n5_; have NB331_330 := n6_; clear n0_ n1_ n2_ n3_ n4_ n5_ n6_; clear hb hbox hg; have hnb16 := NB330_331.out; have hnc16 := NB331_330.out; have hcz17_0 := bc_ BK330 0 (.int .i64 a0_0) rfl; have hcz17_1 := bc_ BK330 1 (.int .i64 a0_1) rfl; have hcz17_2 := bc_ BK330 2 (.int .i64 a0_2) rfl; have hcz17_3 := bc_ BK330 3 (.int .i64 a0_3) rfl; have hcz17_4 := bc_ BK330 4 (.slice A0_4 l0_4.length c0_4) rfl; have hfz17_0 := blk_frozen BK330.out 0; have hfz17_1 := blk_frozen BK330.out 1; have hfz17_2 := blk_frozen BK330.out 2; have hfz17_3 := blk_frozen BK330.out 3; have hfz17_4 := blk_frozen BK330.out 4; have hcz18_0 := bc_ BK331 0 (.int .i64 a1_0) rfl; have hcz18_1 := bc_ BK331 1 (.int .i64 a1_1) rfl; have hcz18_2 := bc_ BK331 2 (.int .i64 a1_2) rfl; have hcz18_3 := bc_ BK331 3 (.int .i64 a1_3) rfl; have hcz18_4 := bc_ BK331 4 (.slice A1_4 l1_4.length c1_4) rfl; have hfz18_0 := blk_frozen BK331.out 0; have hfz18_1 := blk_frozen BK331.out 1; have hfz18_2 := blk_frozen BK331.out 2; have hfz18_3 := blk_frozen BK331.out 3; have hfz18_4 := blk_frozen BK331.out 4))
     go_ret
     exact ⟨by first | rfl | (simp [errW_none, errW_some] <;> rfl) | (simp [*, errW_none, errW_some] <;> rfl), bf_ HB⟩
   ·rw [if_neg c5] at H
    have c5b0 : (a0_2 == a1_2) = false := beq_eq_false_iff_ne.mpr c5
    have c5b1 : (a0_2 != a1_2) = true := bne_iff_ne.mpr c5
    obtain rfl := Option.some.inj H
    go_enter Try.func17, Try.ntmps17
    go_wp2_with (first | ((with_reducible refine gate_dst (N := 2) rfl ?_); refine box_event ?hg (N := 2) ?hd (cs := #[.int .i64 a0_0, .int .i64 a0_1, .int .i64 a0_2, .int .i64 a0_3, .slice A0_4 l0_4.length c0_4]) (t := 32) ?hr ?_; (case hd => rfl); (case hg => rfl); (case hr => first | (go_simp; done) | (go_simp; rfl)); intro gb330 hg w19 hbox hb; have n0_ := Aside0.mk (below_step (be_ HB) hb); have n1_ := Aside0.mk (hbox); have n2_ := gw_ HB hg; have n3_ := gw_ HB hg; clear HB; have HB := n0_; have BK330 := n1_; have GW330 := n2_; have GE330 := n3_; clear n0_ n1_ n2_ n3_; clear hb hbox hg) | ((with_reducible refine gate_dst (N := 3) rfl ?_); refine box_event ?hg (N := 3) ?hd (cs := #[.int .i64 a1_0, .int .i64 a1_1, .int .i64 a1_2, .int .i64 a1_3, .slice A1_4 l1_4.length c1_4]) (t := 32) ?hr ?_; (case hd => rfl); (case hg => rfl); (case hr => first | (go_simp; done) | (go_simp; rfl)); intro gb331 hg w20 hbox hb; have n0_ := bb_ BK330 hb; have n1_ := Aside0.mk (below_step (bf_ HB) hb); have n2_ := Aside0.mk (hbox); have n3_ := gw_ HB hg; have n4_ := gw_ HB hg; have n5_ := nl_ BK330 hg; have n6_ := ng_ BK330 hg; clear BK330; clear HB; have BK330 := n0_; have HB := n1_; have BK331 := n2_; have GW331 := n3_; have GE331 := n4_; have NB330_331 := n5_; have NB331_330 := n6_; clear n0_ n1_ n2_ n3_ n4_ n5_ n6_; clear hb hbox hg; have hnb21 := NB330_331.out; have hnc21 := NB331_330.out; have hcz22_0 := bc_ BK330 0 (.int .i64 a0_0) rfl; have hcz22_1 := bc_ BK330 1 (.int .i64 a0_1) rfl; have hcz22_2 := bc_ BK330 2 (.int .i64 a0_2) rfl; have hcz22_3 := bc_ BK330 3 (.int .i64 a0_3) rfl; have hcz22_4 := bc_ BK330 4 (.slice A0_4 l0_4.length c0_4) rfl; have hfz22_0 := blk_frozen BK330.out 0; have hfz22_1 := blk_frozen BK330.out 1; have hfz22_2 := blk_frozen BK330.out 2; have hfz22_3 := blk_frozen BK330.out 3; have hfz22_4 := blk_frozen BK330.out 4; have hcz23_0 := bc_ BK331 0 (.int .i64 a1_0) rfl; have hcz23_1 := bc_ BK331 1 (.int .i64 a1_1) rfl; have hcz23_2 := bc_ BK331 2 (.int .i64 a1_2) rfl; have hcz23_3 := bc_ BK331 3 (.int .i64 a1_3) rfl; have hcz23_4 := bc_ BK331 4 (.slice A1_4 l1_4.length c1_4) rfl; have hfz23_0 := blk_frozen BK331.out 0; have hfz23_1 := blk_frozen BK331.out 1; have hfz23_2 := blk_frozen BK331.out 2; have hfz23_3 := blk_frozen BK331.out 3; have hfz23_4 := blk_frozen BK331.out 4))
    go_ret
    exact ⟨by first | rfl | (simp [errW_none, errW_some] <;> rfl) | (simp [*, errW_none, errW_some] <;> rfl), bf_ HB⟩
  ·rw [if_neg c4] at H
   have c4b0 : (a0_1 == a1_1) = false := beq_eq_false_iff_ne.mpr c4
   have c4b1 : (a0_1 != a1_1) = true := bne_iff_ne.mpr c4
   obtain rfl := Option.some.inj H
   go_enter Try.func17, Try.ntmps17
   go_wp2_with (first | ((with_reducible refine gate_dst (N := 2) rfl ?_); refine box_event ?hg (N := 2) ?hd (cs := #[.int .i64 a0_0, .int .i64 a0_1, .int .i64 a0_2, .int .i64 a0_3, .slice A0_4 l0_4.length c0_4]) (t := 32) ?hr ?_; (case hd => rfl); (case hg => rfl); (case hr => first | (go_simp; done) | (go_simp; rfl)); intro gb330 hg w24 hbox hb; have n0_ := Aside0.mk (below_step (be_ HB) hb); have n1_ := Aside0.mk (hbox); have n2_ := gw_ HB hg; have n3_ := gw_ HB hg; clear HB; have HB := n0_; have BK330 := n1_; have GW330 := n2_; have GE330 := n3_; clear n0_ n1_ n2_ n3_; clear hb hbox hg) | ((with_reducible refine gate_dst (N := 3) rfl ?_); refine box_event ?hg (N := 3) ?hd (cs := #[.int .i64 a1_0, .int .i64 a1_1, .int .i64 a1_2, .int .i64 a1_3, .slice A1_4 l1_4.length c1_4]) (t := 32) ?hr ?_; (case hd => rfl); (case hg => rfl); (case hr => first | (go_simp; done) | (go_simp; rfl)); intro gb331 hg w25 hbox hb; have n0_ := bb_ BK330 hb; have n1_ := Aside0.mk (below_step (bf_ HB) hb); have n2_ := Aside0.mk (hbox); have n3_ := gw_ HB hg; have n4_ := gw_ HB hg; have n5_ := nl_ BK330 hg; have n6_ := ng_ BK330 hg; clear BK330; clear HB; have BK330 := n0_; have HB := n1_; have BK331 := n2_; have GW331 := n3_; have GE331 := n4_; have NB330_331 := n5_; have NB331_330 := n6_; clear n0_ n1_ n2_ n3_ n4_ n5_ n6_; clear hb hbox hg; have hnb26 := NB330_331.out; have hnc26 := NB331_330.out; have hcz27_0 := bc_ BK330 0 (.int .i64 a0_0) rfl; have hcz27_1 := bc_ BK330 1 (.int .i64 a0_1) rfl; have hcz27_2 := bc_ BK330 2 (.int .i64 a0_2) rfl; have hcz27_3 := bc_ BK330 3 (.int .i64 a0_3) rfl; have hcz27_4 := bc_ BK330 4 (.slice A0_4 l0_4.length c0_4) rfl; have hfz27_0 := blk_frozen BK330.out 0; have hfz27_1 := blk_frozen BK330.out 1; have hfz27_2 := blk_frozen BK330.out 2; have hfz27_3 := blk_frozen BK330.out 3; have hfz27_4 := blk_frozen BK330.out 4; have hcz28_0 := bc_ BK331 0 (.int .i64 a1_0) rfl; have hcz28_1 := bc_ BK331 1 (.int .i64 a1_1) rfl; have hcz28_2 := bc_ BK331 2 (.int .i64 a1_2) rfl; have hcz28_3 := bc_ BK331 3 (.int .i64 a1_3) rfl; have hcz28_4 := bc_ BK331 4 (.slice A1_4 l1_4.length c1_4) rfl; have hfz28_0 := blk_frozen BK331.out 0; have hfz28_1 := blk_frozen BK331.out 1; have hfz28_2 := blk_frozen BK331.out 2; have hfz28_3 := blk_frozen BK331.out 3; have hfz28_4 := blk_frozen BK331.out 4))
   go_ret
   exact ⟨by first | rfl | (simp [errW_none, errW_some] <;> rfl) | (simp [*, errW_none, errW_some] <;> rfl), bf_ HB⟩
 ·rw [if_neg c3] at H
  have c3b0 : (a0_0 == a1_0) = false := beq_eq_false_iff_ne.mpr c3
  have c3b1 : (a0_0 != a1_0) = true := bne_iff_ne.mpr c3
  obtain rfl := Option.some.inj H
  go_enter Try.func17, Try.ntmps17
  go_wp2_with (first | ((with_reducible refine gate_dst (N := 2) rfl ?_); refine box_event ?hg (N := 2) ?hd (cs := #[.int .i64 a0_0, .int .i64 a0_1, .int .i64 a0_2, .int .i64 a0_3, .slice A0_4 l0_4.length c0_4]) (t := 32) ?hr ?_; (case hd => rfl); (case hg => rfl); (case hr => first | (go_simp; done) | (go_simp; rfl)); intro gb330 hg w29 hbox hb; have n0_ := Aside0.mk (below_step (be_ HB) hb); have n1_ := Aside0.mk (hbox); have n2_ := gw_ HB hg; have n3_ := gw_ HB hg; clear HB; have HB := n0_; have BK330 := n1_; have GW330 := n2_; have GE330 := n3_; clear n0_ n1_ n2_ n3_; clear hb hbox hg) | ((with_reducible refine gate_dst (N := 3) rfl ?_); refine box_event ?hg (N := 3) ?hd (cs := #[.int .i64 a1_0, .int .i64 a1_1, .int .i64 a1_2, .int .i64 a1_3, .slice A1_4 l1_4.length c1_4]) (t := 32) ?hr ?_; (case hd => rfl); (case hg => rfl); (case hr => first | (go_simp; done) | (go_simp; rfl)); intro gb331 hg w30 hbox hb; have n0_ := bb_ BK330 hb; have n1_ := Aside0.mk (below_step (bf_ HB) hb); have n2_ := Aside0.mk (hbox); have n3_ := gw_ HB hg; have n4_ := gw_ HB hg; have n5_ := nl_ BK330 hg; have n6_ := ng_ BK330 hg; clear BK330; clear HB; have BK330 := n0_; have HB := n1_; have BK331 := n2_; have GW331 := n3_; have GE331 := n4_; have NB330_331 := n5_; have NB331_330 := n6_; clear n0_ n1_ n2_ n3_ n4_ n5_ n6_; clear hb hbox hg; have hnb31 := NB330_331.out; have hnc31 := NB331_330.out; have hcz32_0 := bc_ BK330 0 (.int .i64 a0_0) rfl; have hcz32_1 := bc_ BK330 1 (.int .i64 a0_1) rfl; have hcz32_2 := bc_ BK330 2 (.int .i64 a0_2) rfl; have hcz32_3 := bc_ BK330 3 (.int .i64 a0_3) rfl; have hcz32_4 := bc_ BK330 4 (.slice A0_4 l0_4.length c0_4) rfl; have hfz32_0 := blk_frozen BK330.out 0; have hfz32_1 := blk_frozen BK330.out 1; have hfz32_2 := blk_frozen BK330.out 2; have hfz32_3 := blk_frozen BK330.out 3; have hfz32_4 := blk_frozen BK330.out 4; have hcz33_0 := bc_ BK331 0 (.int .i64 a1_0) rfl; have hcz33_1 := bc_ BK331 1 (.int .i64 a1_1) rfl; have hcz33_2 := bc_ BK331 2 (.int .i64 a1_2) rfl; have hcz33_3 := bc_ BK331 3 (.int .i64 a1_3) rfl; have hcz33_4 := bc_ BK331 4 (.slice A1_4 l1_4.length c1_4) rfl; have hfz33_0 := blk_frozen BK331.out 0; have hfz33_1 := blk_frozen BK331.out 1; have hfz33_2 := blk_frozen BK331.out 2; have hfz33_3 := blk_frozen BK331.out 3; have hfz33_4 := blk_frozen BK331.out 4))
  go_ret
  exact ⟨by first | rfl | (simp [errW_none, errW_some] <;> rfl) | (simp [*, errW_none, errW_some] <;> rfl), bf_ HB⟩

/-! ### laws_FnEtherBack: function 4 -/
def laws_FnEtherBack.f (k : Nat) (l0 : List Int) : Option (Bool) := (laws_big.f l0).bind fun t332 => (if t332 = true then (some true) else ((spec_DrawEtherBytes.f k l0).bind fun bt333 => ((spec_DrawEtherBytes.f k l0).bind fun bt341 => ((impl_EtherBytes.f k bt341.1 bt341.2.1 bt341.2.2.1 bt341.2.2.2.1 bt341.2.2.2.2).bind fun t348 => ((spec_EtherOk.f k bt333.1 bt333.2.1 bt333.2.2.1 bt333.2.2.2.1 bt333.2.2.2.2).bind fun t351 => (if t351 = true then ((impl_EtherRead.f k t348).bind fun bt352 => (if bt352.2.2.2.2.2 = 0 then ((laws_sameEther.f bt352.1 bt352.2.1 bt352.2.2.1 bt352.2.2.2.1 bt352.2.2.2.2.1 bt333.1 bt333.2.1 bt333.2.2.1 bt333.2.2.2.1 bt333.2.2.2.2).bind fun t361 => (some t361)) else (some false))) else (some ((t348.length : Int) == 0))))))))
theorem laws_FnEtherBack.mono : ∀ a0 k, LeO (laws_FnEtherBack.f k a0) (laws_FnEtherBack.f (k + 1) a0) := by
 intro a0 k
 unfold laws_FnEtherBack.f
 repeat' first
   | (with_reducible exact impl_EtherBytes.mono _ _ _ _ _ _)
   | (with_reducible exact impl_EtherRead.mono _ _)
   | (with_reducible exact spec_DrawEtherBytes.mono _ _)
   | (with_reducible exact spec_EtherOk.mono _ _ _ _ _ _)
   | (with_reducible exact LeO.refl _)
   | (with_reducible exact LeO.none _)
   | (with_reducible refine LeO.ite ?_ ?_)
   | (with_reducible refine LeO.bind ?_ (fun _ => ?_))
   | exact impl_EtherBytes.mono _ _ _ _ _ _
   | exact impl_EtherRead.mono _ _
   | exact spec_DrawEtherBytes.mono _ _
   | exact spec_EtherOk.mono _ _ _ _ _ _
   | exact LeO.none _
   | refine LeO.ite ?_ ?_
   | refine LeO.bind ?_ (fun _ => ?_)
set_option maxHeartbeats 8000000 in
set_option maxRecDepth 100000 in
theorem laws_FnEtherBack.calls (k : Nat) (A0 : Option Addr) (c0 : Nat) (l0 : List Int) (r : Bool) (w : World) (hr0 : Kd.C (Kd.int .u8) w A0 l0.length l0) (hc0 : l0.length ≤ c0) (h : laws_FnEtherBack.f k l0 = some r) :
  Calls Try.prog 4 #[.slice A0 l0.length c0] w fun e w' => e = .returned (.bool r) ∧ Below w.heap.size w w' := by
 have hu32 := Try.underlying32
 have HR0 := Aside0.mk hr0
 have HC0 := Aside0.mk hc0
 clear hr0 hc0; have HB := Aside0.mk (Below.refl w.heap.size w)
 have H : ((laws_big.f l0).bind fun t332 => (if t332 = true then (some true) else ((spec_DrawEtherBytes.f k l0).bind fun bt333 => ((spec_DrawEtherBytes.f k l0).bind fun bt341 => ((impl_EtherBytes.f k bt341.1 bt341.2.1 bt341.2.2.1 bt341.2.2.2.1 bt341.2.2.2.2).bind fun t348 => ((spec_EtherOk.f k bt333.1 bt333.2.1 bt333.2.2.1 bt333.2.2.2.1 bt333.2.2.2.2).bind fun t351 => (if t351 = true then ((impl_EtherRead.f k t348).bind fun bt352 => (if bt352.2.2.2.2.2 = 0 then ((laws_sameEther.f bt352.1 bt352.2.1 bt352.2.2.1 bt352.2.2.2.1 bt352.2.2.2.2.1 bt333.1 bt333.2.1 bt333.2.2.1 bt333.2.2.2.1 bt333.2.2.2.2).bind fun t361 => (some t361)) else (some false))) else (some ((t348.length : Int) == 0))))))))) = some r := h
 clear h
 replace H := Option.bind_eq_some_iff.mp H
 obtain ⟨t332, A20, H⟩ := H
 replace H : (if t332 = true then (some true) else ((spec_DrawEtherBytes.f k l0).bind fun bt333 => ((spec_DrawEtherBytes.f k l0).bind fun bt341 => ((impl_EtherBytes.f k bt341.1 bt341.2.1 bt341.2.2.1 bt341.2.2.2.1 bt341.2.2.2.2).bind fun t348 => ((spec_EtherOk.f k bt333.1 bt333.2.1 bt333.2.2.1 bt333.2.2.2.1 bt333.2.2.2.2).bind fun t351 => (if t351 = true then ((impl_EtherRead.f k t348).bind fun bt352 => (if bt352.2.2.2.2.2 = 0 then ((laws_sameEther.f bt352.1 bt352.2.1 bt352.2.2.1 bt352.2.2.2.1 bt352.2.2.2.2.1 bt333.1 bt333.2.1 bt333.2.2.1 bt333.2.2.2.1 bt333.2.2.2.2).bind fun t361 => (some t361)) else (some false))) else (some ((t348.length : Int) == 0)))))))) = some r := H
 have A2 := Aside0.mk A20
 clear A20
 by_cases c3 : t332 = true
 ·subst c3
  have H1 : (some true) = some r := by rw [if_pos rfl] at H; exact H
  clear H
  have H := H1
  clear H1
  obtain rfl := Option.some.inj H
  go_enter Try.func4, Try.ntmps4
  go_wp2_with (first | ((with_reducible refine gate_callee (f := 9) rfl ?_); refine goesL_ (some 8) rfl rfl Try.func9 (by kernel_rfl) rfl #[.slice A0 l0.length c0] rfl mt_ ?_; (with_reducible refine (laws_big.calls _ _ l0 true _ ?side1 ?side2 A2.out).mono ?_); (case side1 => repeat (first | exact HR0.out | (with_reducible refine Kd.C_alloc ?_ _) | (with_reducible refine Kd.C_drewN ?_ _) | (with_reducible refine Kd.C_drew ?_))); (case side2 => exact HC0.out); rintro e w' ⟨rfl, ⟨nd, rfl⟩⟩; refine ⟨_, rfl, ?_⟩))
  go_ret
  exact ⟨by first | rfl | (simp [errW_none, errW_some] <;> rfl) | (simp [*, errW_none, errW_some] <;> rfl), be_ HB⟩
 ·replace c3 := Bool.eq_false_iff.mpr c3
  subst c3
  have H1 : ((spec_DrawEtherBytes.f k l0).bind fun bt333 => ((spec_DrawEtherBytes.f k l0).bind fun bt341 => ((impl_EtherBytes.f k bt341.1 bt341.2.1 bt341.2.2.1 bt341.2.2.2.1 bt341.2.2.2.2).bind fun t348 => ((spec_EtherOk.f k bt333.1 bt333.2.1 bt333.2.2.1 bt333.2.2.2.1 bt333.2.2.2.2).bind fun t351 => (if t351 = true then ((impl_EtherRead.f k t348).bind fun bt352 => (if bt352.2.2.2.2.2 = 0 then ((laws_sameEther.f bt352.1 bt352.2.1 bt352.2.2.1 bt352.2.2.2.1 bt352.2.2.2.2.1 bt333.1 bt333.2.1 bt333.2.2.1 bt333.2.2.2.1 bt333.2.2.2.2).bind fun t361 => (some t361)) else (some false))) else (some ((t348.length : Int) == 0))))))) = some r := by rw [if_neg (show ¬ (false = true) by decide)] at H; exact H
  clear H
  have H := H1
  clear H1
  replace H := Option.bind_eq_some_iff.mp H
  obtain ⟨⟨t333, t334, t335, t336, t337⟩, A40, H⟩ := H
  replace H : ((spec_DrawEtherBytes.f k l0).bind fun bt341 => ((impl_EtherBytes.f k bt341.1 bt341.2.1 bt341.2.2.1 bt341.2.2.2.1 bt341.2.2.2.2).bind fun t348 => ((spec_EtherOk.f k t333 t334 t335 t336 t337).bind fun t351 => (if t351 = true then ((impl_EtherRead.f k t348).bind fun bt352 => (if bt352.2.2.2.2.2 = 0 then ((laws_sameEther.f bt352.1 bt352.2.1 bt352.2.2.1 bt352.2.2.2.1 bt352.2.2.2.2.1 t333 t334 t335 t336 t337).bind fun t361 => (some t361)) else (some false))) else (some ((t348.length : Int) == 0)))))) = some r := H
  have A4 := Aside0.mk A40
  clear A40
  replace H := Option.bind_eq_some_iff.mp H
  obtain ⟨⟨t341, t342, t343, t344, t345⟩, A50, H⟩ := H
  replace H : ((impl_EtherBytes.f k t341 t342 t343 t344 t345).bind fun t348 => ((spec_EtherOk.f k t333 t334 t335 t336 t337).bind fun t351 => (if t351 = true then ((impl_EtherRead.f k t348).bind fun bt352 => (if bt352.2.2.2.2.2 = 0 then ((laws_sameEther.f bt352.1 bt352.2.1 bt352.2.2.1 bt352.2.2.2.1 bt352.2.2.2.2.1 t333 t334 t335 t336 t337).bind fun t361 => (some t361)) else (some false))) else (some ((t348.length : Int) == 0))))) = some r := H
  have A5 := Aside0.mk A50
  clear A50
  replace H := Option.bind_eq_some_iff.mp H
  obtain ⟨t348, A60, H⟩ := H
  replace H : ((spec_EtherOk.f k t333 t334 t335 t336 t337).bind fun t351 => (if t351 = true then ((impl_EtherRead.f k t348).bind fun bt352 => (if bt352.2.2.2.2.2 = 0 then ((laws_sameEther.f bt352.1 bt352.2.1 bt352.2.2.1 bt352.2.2.2.1 bt352.2.2.2.2.1 t333 t334 t335 t336 t337).bind fun t361 => (some t361)) else (some false))) else (some ((t348.length : Int) == 0)))) = some r := H
  have A6 := Aside0.mk A60
  clear A60
  replace H := Option.bind_eq_some_iff.mp H
  obtain ⟨t351, A70, H⟩ := H
  replace H : (if t351 = true then ((impl_EtherRead.f k t348).bind fun bt352 => (if bt352.2.2.2.2.2 = 0 then ((laws_sameEther.f bt352.1 bt352.2.1 bt352.2.2.1 bt352.2.2.2.1 bt352.2.2.2.2.1 t333 t334 t335 t336 t337).bind fun t361 => (some t361)) else (some false))) else (some ((t348.length : Int) == 0))) = some r := H
  have A7 := Aside0.mk A70
  clear A70
  by_cases c8 : t351 = true
  ·subst c8
   have H1 : ((impl_EtherRead.f k t348).bind fun bt352 => (if bt352.2.2.2.2.2 = 0 then ((laws_sameEther.f bt352.1 bt352.2.1 bt352.2.2.1 bt352.2.2.2.1 bt352.2.2.2.2.1 t333 t334 t335 t336 t337).bind fun t361 => (some t361)) else (some false))) = some r := by rw [if_pos rfl] at H; exact H
   clear H
   have H := H1
   clear H1
   replace H := Option.bind_eq_some_iff.mp H
   obtain ⟨⟨t352, t353, t354, t355, t356, t359⟩, A90, H⟩ := H
   replace H : (if t359 = 0 then ((laws_sameEther.f t352 t353 t354 t355 t356 t333 t334 t335 t336 t337).bind fun t361 => (some t361)) else (some false)) = some r := H
   have A9 := Aside0.mk A90
   clear A90
   by_cases c10 : t359 = 0
   ·rw [if_pos c10] at H
    have c10b0 : (t359 == 0) = true := beq_iff_eq.mpr c10
    have c10b1 : (t359 != 0) = false := bne_eq_false_iff_eq.mpr c10
    clear c10
    replace H := Option.bind_eq_some_iff.mp H
    obtain ⟨t361, A110, H⟩ := H
    replace H : (some t361) = some r := H
    have A11 := Aside0.mk A110
    clear A110
    obtain rfl := Option.some.inj H
    go_enter Try.func4, Try.ntmps4
    go_wp2_with (first | ((with_reducible refine gate_callee (f := 9) rfl ?_); refine goesL_ (some 8) rfl rfl Try.func9 (by kernel_rfl) rfl #[.slice A0 l0.length c0] rfl mt_ ?_; (with_reducible refine (laws_big.calls _ _ l0 false _ ?side1 ?side2 A2.out).mono ?_); (case side1 => repeat (first | exact HR0.out | (with_reducible refine Kd.C_alloc ?_ _) | (with_reducible refine Kd.C_drewN ?_ _) | (with_reducible refine Kd.C_drew ?_))); (case side2 => exact HC0.out); rintro e w' ⟨rfl, ⟨nd, rfl⟩⟩; refine ⟨_, rfl, ?_⟩) | ((with_reducible refine gate_callee (f := 13) rfl ?_); refine goesL_ (some 10) rfl rfl Try.func13 (by kernel_rfl) rfl #[.slice A0 l0.length c0] rfl mt_ ?_; (with_reducible refine (spec_DrawEtherBytes.calls k _ _ l0 t333 t334 t335 t336 t337 _ ?side1 ?side2 A4.out).mono ?_); (case side1 => repeat (first | exact HR0.out | (with_reducible refine Kd.C_alloc ?_ _) | (with_reducible refine Kd.C_drewN ?_ _) | (with_reducible refine Kd.C_drew ?_))); (case side2 => exact HC0.out); rintro e w12 ⟨v338, rfl, ho0, hb⟩; refine ⟨_, rfl, ?_⟩; have n0_ := Aside0.mk (Kd.R_lower ho0 (below_size (be_ HB))); have n1_ := Aside0.mk (below_step (be_ HB) hb); clear HB; have HO339 := n0_; have HB := n1_; clear n0_ n1_; (try clear hb); (try clear hb2); (try clear hk); (try clear hi); (try clear ho0)) | ((with_reducible refine gate_dst (N := 3) rfl ?_); refine box_event ?hg (N := 3) ?hd (cs := #[.int .i64 0, .int .i64 0, .int .i64 0, .int .i64 0, .slice none 0 0]) (t := 32) ?hr ?_; (case hd => rfl); (case hg => rfl); (case hr => first | (go_simp; done) | (go_simp; rfl)); intro gb340 hg w13 hbox hb; have n0_ := Aside0.mk (Kd.R_below (kr_ HO339) hb); have n1_ := Aside0.mk (below_step (be_ HB) hb); have n2_ := Aside0.mk (hbox); have n3_ := gw_ HB hg; have n4_ := gw_ HB hg; clear HO339; clear HB; have HO339 := n0_; have HB := n1_; have BK340 := n2_; have GW340 := n3_; have GE340 := n4_; clear n0_ n1_ n2_ n3_ n4_; clear hb hbox hg; have hcz14_0 := bc_ BK340 0 (.int .i64 0) rfl; have hcz14_1 := bc_ BK340 1 (.int .i64 0) rfl; have hcz14_2 := bc_ BK340 2 (.int .i64 0) rfl; have hcz14_3 := bc_ BK340 3 (.int .i64 0) rfl; have hcz14_4 := bc_ BK340 4 (.slice none 0 0) rfl; have hfz14_0 := blk_frozen BK340.out 0; have hfz14_1 := blk_frozen BK340.out 1; have hfz14_2 := blk_frozen BK340.out 2; have hfz14_3 := blk_frozen BK340.out 3; have hfz14_4 := blk_frozen BK340.out 4; obtain ⟨Ao15, co15, eo15⟩ := Kd.R_slice HO339.out; subst eo15) | ((with_reducible refine gate_callee (f := 13) rfl ?_); refine goesL_ (some 12) rfl rfl Try.func13 (by kernel_rfl) rfl #[.slice A0 l0.length c0] rfl mt_ ?_; (with_reducible refine (spec_DrawEtherBytes.calls k _ _ l0 t341 t342 t343 t344 t345 _ ?side1 ?side2 A5.out).mono ?_); (case side1 => exact Kd.C_below HR0.out (bf_ HB)); (case side2 => exact HC0.out); rintro e w16 ⟨v346, rfl, ho0, hb⟩; refine ⟨_, rfl, ?_⟩; have n0_ := Aside0.mk (Kd.R_elder' (by (with_reducible repeat (first | apply Kd.R_alloc | apply Kd.R_drewN | apply Kd.R_drew)); exact (rf5_ HO339 BK340 (.int .i64 t333) (.int .i64 t334) (.int .i64 t335) (.int .i64 t336) (.slice Ao15 t337.length co15))) (Kd.R_base ho0) hb); have n1_ := Aside0.mk (Kd.R_lower (Kd.R_new' ho0 (Kd.R_lt (by (with_reducible repeat (first | apply Kd.R_alloc | apply Kd.R_drewN | apply Kd.R_drew)); exact (rf5_ HO339 BK340 (.int .i64 t333) (.int .i64 t334) (.int .i64 t335) (.int .i64 t336) (.slice Ao15 t337.length co15))))) (below_size (bf_ HB))); have n2_ := Aside0.mk (blk_below (g := gb340) (o := .cells #[.int .i64 t333, .int .i64 t334, .int .i64 t335, .int .i64 t336, .slice Ao15 t337.length co15] 32 (0, 0)) (by (with_reducible repeat (first | refine blk_drewN ?_ _ | refine blk_drew ?_ | refine blk_alloc ?_ _)); refine blk_put (cs := #[.int .i64 t333, .int .i64 t334, .int .i64 t335, .int .i64 t336, .slice none 0 0]) ?_ 4 _ rfl; (with_reducible repeat (first | refine blk_drewN ?_ _ | refine blk_drew ?_ | refine blk_alloc ?_ _)); refine blk_put (cs := #[.int .i64 t333, .int .i64 t334, .int .i64 t335, .int .i64 0, .slice none 0 0]) ?_ 3 _ rfl; (with_reducible repeat (first | refine blk_drewN ?_ _ | refine blk_drew ?_ | refine blk_alloc ?_ _)); refine blk_put (cs := #[.int .i64 t333, .int .i64 t334, .int .i64 0, .int .i64 0, .slice none 0 0]) ?_ 2 _ rfl; (with_reducible repeat (first | refine blk_drewN ?_ _ | refine blk_drew ?_ | refine blk_alloc ?_ _)); refine blk_put (cs := #[.int .i64 t333, .int .i64 0, .int .i64 0, .int .i64 0, .slice none 0 0]) ?_ 1 _ rfl; (with_reducible repeat (first | refine blk_drewN ?_ _ | refine blk_drew ?_ | refine blk_alloc ?_ _)); refine blk_put (cs := #[.int .i64 0, .int .i64 0, .int .i64 0, .int .i64 0, .slice none 0 0]) ?_ 0 _ rfl; exact bk_ BK340) hb); have n3_ := Aside0.mk (below_step (bf_ HB) hb); clear HO339; clear BK340; clear HB; have HO339 := n0_; have HO347 := n1_; have BK340 := n2_; have HB := n3_; clear n0_ n1_ n2_ n3_; (try clear hb); (try clear hb2); (try clear hk); (try clear hi); (try clear ho0); obtain ⟨Ao17, co17, eo17⟩ := Kd.R_slice HO347.out; subst eo17) | ((with_reducible refine gate_callee (f := 14) rfl ?_); refine goesL_ (some 13) rfl rfl Try.func14 (by kernel_rfl) rfl #[.agg #[.int .i64 t341, .int .i64 t342, .int .i64 t343, .int .i64 t344, .slice Ao17 t345.length co17]] rfl mt_ ?_; (with_reducible refine (impl_EtherBytes.calls k t341 t342 t343 t344 (fun k_ => some k_ = (.slice Ao17 t345.length co17 : Value).ownBlock) _ _ t345 t348 _ ?side1 A6.out).mono ?_); (case side1 => exact Kd.R_V (Kd.R_tight rfl (Kd.R_types (HO347.out) BK340.out (by decide)))); rintro e w18 ⟨v349, rfl, ho0, hb⟩; refine ⟨_, rfl, ?_⟩; have n0_ := Aside0.mk (Kd.R_elder' (kr_ HO339) (Kd.R_base ho0) hb); have n1_ := Aside0.mk (Kd.R_elder' (kr_ HO347) (Kd.R_base ho0) hb); have n2_ := Aside0.mk (Kd.R_lower (Kd.R_new' (Kd.R_new' (Kd.R_mono (ok' := fun k_ => True) ho0 (fun _ hk_ => trivial)) (Kd.R_lt (kr_ HO339))) (Kd.R_lt (kr_ HO347))) (below_size (bf_ HB))); have n3_ := bb_ BK340 hb; have n4_ := Aside0.mk (below_step (bf_ HB) hb); clear HO339; clear HO347; clear BK340; clear HB; have HO339 := n0_; have HO347 := n1_; have HO350 := n2_; have BK340 := n3_; have HB := n4_; clear n0_ n1_ n2_ n3_ n4_; (try clear hb); (try clear hb2); (try clear hk); (try clear hi); (try clear ho0); have hcz19_0 := bc_ BK340 0 (.int .i64 t333) rfl; have hcz19_1 := bc_ BK340 1 (.int .i64 t334) rfl; have hcz19_2 := bc_ BK340 2 (.int .i64 t335) rfl; have hcz19_3 := bc_ BK340 3 (.int .i64 t336) rfl; have hcz19_4 := bc_ BK340 4 (.slice Ao15 t337.length co15) rfl; have hfz19_0 := blk_frozen BK340.out 0; have hfz19_1 := blk_frozen BK340.out 1; have hfz19_2 := blk_frozen BK340.out 2; have hfz19_3 := blk_frozen BK340.out 3; have hfz19_4 := blk_frozen BK340.out 4) | ((with_reducible refine gate_callee (f := 15) rfl ?_); refine goesL_ (some 15) rfl rfl Try.func15 (by kernel_rfl) rfl #[.agg #[.int .i64 t333, .int .i64 t334, .int .i64 t335, .int .i64 t336, .slice Ao15 t337.length co15]] rfl mt_ ?_; (with_reducible refine (spec_EtherOk.calls k t333 t334 t335 t336 _ _ t337 true _ ?side1 ?side2 A7.out).mono ?_); (case side1 => exact cr_ HO339); (case side2 => exact (Kd.R_reads' HO339.out).2.1); rintro e w20 ⟨rfl, hb⟩; refine ⟨_, rfl, ?_⟩; have n0_ := Aside0.mk (Kd.R_below (kr_ HO339) hb); have n1_ := Aside0.mk (Kd.R_below (kr_ HO347) hb); have n2_ := Aside0.mk (Kd.R_below (kr_ HO350) hb); have n3_ := bb_ BK340 hb; have n4_ := Aside0.mk (below_step (bf_ HB) hb); clear HO339; clear HO347; clear HO350; clear BK340; clear HB; have HO339 := n0_; have HO347 := n1_; have HO350 := n2_; have BK340 := n3_; have HB := n4_; clear n0_ n1_ n2_ n3_ n4_; (try clear hb); (try clear hb2); (try clear hk); (try clear hi); obtain ⟨Ao21, co21, eo21⟩ := Kd.R_slice HO350.out; subst eo21) | ((with_reducible refine gate_callee (f := 16) rfl ?_); refine goesL_ (some 22) rfl rfl Try.func16 (by kernel_rfl) rfl #[.slice Ao21 t348.length co21] rfl mt_ ?_; (with_reducible refine (impl_EtherRead.calls k _ _ t348 t352 t353 t354 t355 t356 t359 _ ?side1 ?side2 A9.out).mono ?_); (case side1 => exact cr_ HO350); (case side2 => exact (Kd.R_reads' HO350.out).2.1); rintro e w22 ⟨v357, rfl, ho0, hb⟩; refine ⟨_, rfl, ?_⟩; have n0_ := Aside0.mk (Kd.R_elder' (kr_ HO339) (Kd.R_base ho0) hb); have n1_ := Aside0.mk (Kd.R_elder' (kr_ HO347) (Kd.R_base ho0) hb); have n2_ := Aside0.mk (Kd.R_elder' (kr_ HO350) (Kd.R_base ho0) hb); have n3_ := Aside0.mk (Kd.R_lower (Kd.R_new' (Kd.R_new' (Kd.R_new' ho0 (Kd.R_lt (kr_ HO339))) (Kd.R_lt (kr_ HO347))) (Kd.R_lt (kr_ HO350))) (below_size (bf_ HB))); have n4_ := bb_ BK340 hb; have n5_ := Aside0.mk (below_step (bf_ HB) hb); clear HO339; clear HO347; clear HO350; clear BK340; clear HB; have HO339 := n0_; have HO347 := n1_; have HO350 := n2_; have HO358 := n3_; have BK340 := n4_; have HB := n5_; clear n0_ n1_ n2_ n3_ n4_ n5_; (try clear hb); (try clear hb2); (try clear hk); (try clear hi); (try clear ho0)) | ((with_reducible refine gate_dst (N := 5) rfl ?_); refine box_event ?hg (N := 5) ?hd (cs := #[.int .i64 0, .int .i64 0, .int .i64 0, .int .i64 0, .slice none 0 0]) (t := 32) ?hr ?_; (case hd => rfl); (case hg => rfl); (case hr => first | (go_simp; done) | (go_simp; rfl)); intro gb360 hg w23 hbox hb; have n0_ := Aside0.mk (Kd.R_below (kr_ HO339) hb); have n1_ := Aside0.mk (Kd.R_below (kr_ HO347) hb); have n2_ := Aside0.mk (Kd.R_below (kr_ HO350) hb); have n3_ := Aside0.mk (Kd.R_below (kr_ HO358) hb); have n4_ := bb_ BK340 hb; have n5_ := Aside0.mk (below_step (bf_ HB) hb); have n6_ := Aside0.mk (hbox); have n7_ := gw_ HB hg; have n8_ := gw_ HB hg; have n9_ := nl_ BK340 hg; have n10_ := ng_ BK340 hg; clear HO339; clear HO347; clear HO350; clear HO358; clear BK340; clear HB; have HO339 := n0_; have HO347 := n1_; have HO350 := n2_; have HO358 := n3_; have BK340 := n4_; have HB := n5_; have BK360 := n6_; have GW360 := n7_; have GE360 := n8_; have NB340_360 := n9_; have NB360_340 := n10_; clear n0_ n1_ n2_ n3_ n4_ n5_ n6_ n7_ n8_ n9_ n10_; clear hb hbox hg; have hnb24 := NB360_340.out; have hnc24 := NB340_360.out; have hcz25_0 := bc_ BK360 0 (.int .i64 0) rfl; have hcz25_1 := bc_ BK360 1 (.int .i64 0) rfl; have hcz25_2 := bc_ BK360 2 (.int .i64 0) rfl; have hcz25_3 := bc_ BK360 3 (.int .i64 0) rfl; have hcz25_4 := bc_ BK360 4 (.slice none 0 0) rfl; have hfz25_0 := blk_frozen BK360.out 0; have hfz25_1 := blk_frozen BK360.out 1; have hfz25_2 := blk_frozen BK360.out 2; have hfz25_3 := blk_frozen BK360.out 3; have hfz25_4 := blk_frozen BK360.out 4; obtain ⟨Ao26, co26, eo26⟩ := Kd.R_slice HO358.out; subst eo26; have hcz27_0 := bc_ BK340 0 (.int .i64 t333) rfl; have hcz27_1 := bc_ BK340 1 (.int .i64 t334) rfl; have hcz27_2 := bc_ BK340 2 (.int .i64 t335) rfl; have hcz27_3 := bc_ BK340 3 (.int .i64 t336) rfl; have hcz27_4 := bc_ BK340 4 (.slice Ao15 t337.length co15) rfl; have hfz27_0 := blk_frozen BK340.out 0; have hfz27_1 := blk_frozen BK340.out 1; have hfz27_2 := blk_frozen BK340.out 2; have hfz27_3 := blk_frozen BK340.out 3; have hfz27_4 := blk_frozen BK340.out 4) | (go_at_call 17; (with_reducible refine (laws_sameEther.calls t352 t353 t354 t355 _ _ t356 t333 t334 t335 t336 _ _ t337 t361 _ ?side1 ?side2 ?side3 ?side4 A11.out).mono ?_); (case side1 => refine (Kd.R_reads' (e := 5) (base := w.heap.size) (ok := fun k_ => (((True ∧ some k_ ≠ (.slice Ao15 t337.length co15 : Value).ownBlock) ∧ some k_ ≠ (.slice Ao17 t345.length co17 : Value).ownBlock) ∧ some k_ ≠ (.slice Ao21 t348.length co21 : Value).ownBlock)) (n := t356.length) (c := co26) ?_).2.2; exact (by (with_reducible repeat (first | apply Kd.R_alloc | apply Kd.R_drewN | apply Kd.R_drew)); exact (rf5_ HO358 BK360 (.int .i64 t352) (.int .i64 t353) (.int .i64 t354) (.int .i64 t355) (.slice Ao26 t356.length co26)))); (case side2 => exact (Kd.R_reads' HO358.out).2.1); (case side3 => refine (Kd.R_reads' (e := 5) (base := w.heap.size) (ok := fun k_ => (((True ∧ some k_ ≠ (.slice Ao17 t345.length co17 : Value).ownBlock) ∧ some k_ ≠ (.slice Ao21 t348.length co21 : Value).ownBlock) ∧ some k_ ≠ (.slice Ao26 t356.length co26 : Value).ownBlock)) (n := t337.length) (c := co15) ?_).2.2; exact (by (with_reducible repeat (first | apply Kd.R_alloc | apply Kd.R_drewN | apply Kd.R_drew)); exact (rf5_ HO339 BK360 (.int .i64 t352) (.int .i64 t353) (.int .i64 t354) (.int .i64 t355) (.slice Ao26 t356.length co26)))); (case side4 => exact (Kd.R_reads' HO339.out).2.1); rintro e w28 ⟨rfl, hb⟩; have n0_ := Aside0.mk (Kd.R_below (by (with_reducible repeat (first | apply Kd.R_alloc | apply Kd.R_drewN | apply Kd.R_drew)); exact (rf5_ HO339 BK360 (.int .i64 t352) (.int .i64 t353) (.int .i64 t354) (.int .i64 t355) (.slice Ao26 t356.length co26))) hb); have n1_ := Aside0.mk (Kd.R_below (by (with_reducible repeat (first | apply Kd.R_alloc | apply Kd.R_drewN | apply Kd.R_drew)); exact (rf5_ HO347 BK360 (.int .i64 t352) (.int .i64 t353) (.int .i64 t354) (.int .i64 t355) (.slice Ao26 t356.length co26))) hb); have n2_ := Aside0.mk (Kd.R_below (by (with_reducible repeat (first | apply Kd.R_alloc | apply Kd.R_drewN | apply Kd.R_drew)); exact (rf5_ HO350 BK360 (.int .i64 t352) (.int .i64 t353) (.int .i64 t354) (.int .i64 t355) (.slice Ao26 t356.length co26))) hb); have n3_ := Aside0.mk (Kd.R_below (by (with_reducible repeat (first | apply Kd.R_alloc | apply Kd.R_drewN | apply Kd.R_drew)); exact (rf5_ HO358 BK360 (.int .i64 t352) (.int .i64 t353) (.int .i64 t354) (.int .i64 t355) (.slice Ao26 t356.length co26))) hb); have n4_ := bm_ BK340 hb; have n5_ := Aside0.mk (blk_below (g := gb360) (o := .cells #[.int .i64 t352, .int .i64 t353, .int .i64 t354, .int .i64 t355, .slice Ao26 t356.length co26] 32 (0, 0)) (by (with_reducible repeat (first | refine blk_drewN ?_ _ | refine blk_drew ?_ | refine blk_alloc ?_ _)); refine blk_put (cs := #[.int .i64 t352, .int .i64 t353, .int .i64 t354, .int .i64 t355, .slice none 0 0]) ?_ 4 _ rfl; (with_reducible repeat (first | refine blk_drewN ?_ _ | refine blk_drew ?_ | refine blk_alloc ?_ _)); refine blk_put (cs := #[.int .i64 t352, .int .i64 t353, .int .i64 t354, .int .i64 0, .slice none 0 0]) ?_ 3 _ rfl; (with_reducible repeat (first | refine blk_drewN ?_ _ | refine blk_drew ?_ | refine blk_alloc ?_ _)); refine blk_put (cs := #[.int .i64 t352, .int .i64 t353, .int .i64 0, .int .i64 0, .slice none 0 0]) ?_ 2 _ rfl; (with_reducible repeat (first | refine blk_drewN ?_ _ | refine blk_drew ?_ | refine blk_alloc ?_ _)); refine blk_put (cs := #[.int .i64 t352, .int .i64 0, .int .i64 0, .int .i64 0, .slice none 0 0]) ?_ 1 _ rfl; (with_reducible repeat (first | refine blk_drewN ?_ _ | refine blk_drew ?_ | refine blk_alloc ?_ _)); refine blk_put (cs := #[.int .i64 0, .int .i64 0, .int .i64 0, .int .i64 0, .slice none 0 0]) ?_ 0 _ rfl; exact bk_ BK360) hb); have n6_ := Aside0.mk (below_step (bf_ HB) hb); clear HO339; clear HO347; clear HO350; clear HO358; clear BK340; clear BK360; clear HB; have HO339 := n0_; have HO347 := n1_; have HO350 := n2_; have HO358 := n3_; have BK340 := n4_; have BK360 := n5_; have HB := n6_; clear n0_ n1_ n2_ n3_ n4_ n5_ n6_; (try clear hb); (try clear hb2); (try clear hk); (try clear hi)))
    go_ret
    exact ⟨by first | rfl | (simp [errW_none, errW_some] <;> rfl) | (simp [*, errW_none, errW_some] <;> rfl), bf_ HB⟩
   ·rw [if_neg c10] at H
    have c10b0 : (t359 == 0) = false := beq_eq_false_iff_ne.mpr c10
    have c10b1 : (t359 != 0) = true := bne_iff_ne.mpr c10
    obtain rfl := Option.some.inj H
    go_enter Try.func4, Try.ntmps4
    go_wp2_with (first | ((with_reducible refine gate_callee (f := 9) rfl ?_); refine goesL_ (some 8) rfl rfl Try.func9 (by kernel_rfl) rfl #[.slice A0 l0.length c0] rfl mt_ ?_; (with_reducible refine (laws_big.calls _ _ l0 false _ ?side1 ?side2 A2.out).mono ?_); (case side1 => repeat (first | exact HR0.out | (with_reducible refine Kd.C_alloc ?_ _) | (with_reducible refine Kd.C_drewN ?_ _) | (with_reducible refine Kd.C_drew ?_))); (case side2 => exact HC0.out); rintro e w' ⟨rfl, ⟨nd, rfl⟩⟩; refine ⟨_, rfl, ?_⟩) | ((with_reducible refine gate_callee (f := 13) rfl ?_); refine goesL_ (some 10) rfl rfl Try.func13 (by kernel_rfl) rfl #[.slice A0 l0.length c0] rfl mt_ ?_; (with_reducible refine (spec_DrawEtherBytes.calls k _ _ l0 t333 t334 t335 t336 t337 _ ?side1 ?side2 A4.out).mono ?_); (case side1 => repeat (first | exact HR0.out | (with_reducible refine Kd.C_alloc ?_ _) | (with_reducible refine Kd.C_drewN ?_ _) | (with_reducible refine Kd.C_drew ?_))); (case side2 => exact HC0.out); rintro e w29 ⟨v338, rfl, ho0, hb⟩; refine ⟨_, rfl, ?_⟩; have n0_ := Aside0.mk (Kd.R_lower ho0 (below_size (be_ HB))); have n1_ := Aside0.mk (below_step (be_ HB) hb); clear HB; have HO339 := n0_; have HB := n1_; clear n0_ n1_; (try clear hb); (try clear hb2); (try clear hk); (try clear hi); (try clear ho0)) | ((with_reducible refine gate_dst (N := 3) rfl ?_); refine box_event ?hg (N := 3) ?hd (cs := #[.int .i64 0, .int .i64 0, .int .i64 0, .int .i64 0, .slice none 0 0]) (t := 32) ?hr ?_; (case hd => rfl); (case hg => rfl); (case hr => first | (go_simp; done) | (go_simp; rfl)); intro gb340 hg w30 hbox hb; have n0_ := Aside0.mk (Kd.R_below (kr_ HO339) hb); have n1_ := Aside0.mk (below_step (be_ HB) hb); have n2_ := Aside0.mk (hbox); have n3_ := gw_ HB hg; have n4_ := gw_ HB hg; clear HO339; clear HB; have HO339 := n0_; have HB := n1_; have BK340 := n2_; have GW340 := n3_; have GE340 := n4_; clear n0_ n1_ n2_ n3_ n4_; clear hb hbox hg; have hcz31_0 := bc_ BK340 0 (.int .i64 0) rfl; have hcz31_1 := bc_ BK340 1 (.int .i64 0) rfl; have hcz31_2 := bc_ BK340 2 (.int .i64 0) rfl; have hcz31_3 := bc_ BK340 3 (.int .i64 0) rfl; have hcz31_4 := bc_ BK340 4 (.slice none 0 0) rfl; have hfz31_0 := blk_frozen BK340.out 0; have hfz31_1 := blk_frozen BK340.out 1; have hfz31_2 := blk_frozen BK340.out 2; have hfz31_3 := blk_frozen BK340.out 3; have hfz31_4 := blk_frozen BK340.out 4; obtain ⟨Ao32, co32, eo32⟩ := Kd.R_slice HO339.out; subst eo32) | ((with_reducible refine gate_callee (f := 13) rfl ?_); refine goesL_ (some 12) rfl rfl Try.func13 (by kernel_rfl) rfl #[.slice A0 l0.length c0] rfl mt_ ?_; (with_reducible refine (spec_DrawEtherBytes.calls k _ _ l0 t341 t342 t343 t344 t345 _ ?side1 ?side2 A5.out).mono ?_); (case side1 => exact Kd.C_below HR0.out (bf_ HB)); (case side2 => exact HC0.out); rintro e w33 ⟨v346, rfl, ho0, hb⟩; refine ⟨_, rfl, ?_⟩; have n0_ := Aside0.mk (Kd.R_elder' (by (with_reducible repeat (first | apply Kd.R_alloc | apply Kd.R_drewN | apply Kd.R_drew)); exact (rf5_ HO339 BK340 (.int .i64 t333) (.int .i64 t334) (.int .i64 t335) (.int .i64 t336) (.slice Ao32 t337.length co32))) (Kd.R_base ho0) hb); have n1_ := Aside0.mk (Kd.R_lower (Kd.R_new' ho0 (Kd.R_lt (by (with_reducible repeat (first | apply Kd.R_alloc | apply Kd.R_drewN | apply Kd.R_drew)); exact (rf5_ HO339 BK340 (.int .i64 t333) (.int .i64 t334) (.int .i64 t335) (.int .i64 t336) (.slice Ao32 t337.length co32))))) (below_size (bf_ HB))); have n2_ := Aside0.mk (blk_below (g := gb340) (o := .cells #[.int .i64 t333, .int .i64 t334, .int .i64 t335, .int .i64 t336, .slice Ao32 t337.length co32] 32 (0, 0)) (by (with_reducible repeat (first | refine blk_drewN ?_ _ | refine blk_drew ?_ | refine blk_alloc ?_ _)); refine blk_put (cs := #[.int .i64 t333, .int .i64 t334, .int .i64 t335, .int .i64 t336, .slice none 0 0]) ?_ 4 _ rfl; (with_reducible repeat (first | refine blk_drewN ?_ _ | refine blk_drew ?_ | refine blk_alloc ?_ _)); refine blk_put (cs := #[.int .i64 t333, .int .i64 t334, .int .i64 t335, .int .i64 0, .slice none 0 0]) ?_ 3 _ rfl; (with_reducible repeat (first | refine blk_drewN ?_ _ | refine blk_drew ?_ | refine blk_alloc ?_ _)); refine blk_put (cs := #[.int .i64 t333, .int .i64 t334, .int .i64 0, .int .i64 0, .slice none 0 0]) ?_ 2 _ rfl; (with_reducible repeat (first | refine blk_drewN ?_ _ | refine blk_drew ?_ | refine blk_alloc ?_ _)); refine blk_put (cs := #[.int .i64 t333, .int .i64 0, .int .i64 0, .int .i64 0, .slice none 0 0]) ?_ 1 _ rfl; (with_reducible repeat (first | refine blk_drewN ?_ _ | refine blk_drew ?_ | refine blk_alloc ?_ _)); refine blk_put (cs := #[.int .i64 0, .int .i64 0, .int .i64 0, .int .i64 0, .slice none 0 0]) ?_ 0 _ rfl; exact bk_ BK340) hb); have n3_ := Aside0.mk (below_step (bf_ HB) hb); clear HO339; clear BK340; clear HB; have HO339 := n0_; have HO347 := n1_; have BK340 := n2_; have HB := n3_; clear n0_ n1_ n2_ n3_; (try clear hb); (try clear hb2); (try clear hk); (try clear hi); (try clear ho0); obtain ⟨Ao34, co34, eo34⟩ := Kd.R_slice HO347.out; subst eo34) | ((with_reducible refine gate_callee (f := 14) rfl ?_); refine goesL_ (some 13) rfl rfl Try.func14 (by kernel_rfl) rfl #[.agg #[.int .i64 t341, .int .i64 t342, .int .i64 t343, .int .i64 t344, .slice Ao34 t345.length co34]] rfl mt_ ?_; (with_reducible refine (impl_EtherBytes.calls k t341 t342 t343 t344 (fun k_ => some k_ = (.slice Ao34 t345.length co34 : Value).ownBlock) _ _ t345 t348 _ ?side1 A6.out).mono ?_); (case side1 => exact Kd.R_V (Kd.R_tight rfl (Kd.R_types (HO347.out) BK340.out (by decide)))); rintro e w35 ⟨v349, rfl, ho0, hb⟩; refine ⟨_, rfl, ?_⟩; have n0_ := Aside0.mk (Kd.R_elder' (kr_ HO339) (Kd.R_base ho0) hb); have n1_ := Aside0.mk (Kd.R_elder' (kr_ HO347) (Kd.R_base ho0) hb); have n2_ := Aside0.mk (Kd.R_lower (Kd.R_new' (Kd.R_new' (Kd.R_mono (ok' := fun k_ => True) ho0 (fun _ hk_ => trivial)) (Kd.R_lt (kr_ HO339))) (Kd.R_lt (kr_ HO347))) (below_size (bf_ HB))); have n3_ := bb_ BK340 hb; have n4_ := Aside0.mk (below_step (bf_ HB) hb); clear HO339; clear HO347; clear BK340; clear HB; have HO339 := n0_; have HO347 := n1_; have HO350 := n2_; have BK340 := n3_; have HB := n4_; clear n0_ n1_ n2_ n3_ n4_; (try clear hb); (try clear hb2); (try clear hk); (try clear hi); (try clear ho0); have hcz36_0 := bc_ BK340 0 (.int .i64 t333) rfl; have hcz36_1 := bc_ BK340 1 (.int .i64 t334) rfl; have hcz36_2 := bc_ BK340 2 (.int .i64 t335) rfl; have hcz36_3 := bc_ BK340 3 (.int .i64 t336) rfl; have hcz36_4 := bc_ BK340 4 (.slice Ao32 t337.length co32) rfl; have hfz36_0 := blk_frozen BK340.out 0; have hfz36_1 := blk_frozen BK340.out 1; have hfz36_2 := blk_frozen BK340.out 2; have hfz36_3 := blk_frozen BK340.out 3; have hfz36_4 := blk_frozen BK340.out 4) | ((with_reducible refine gate_callee (f := 15) rfl ?_); refine goesL_ (some 15) rfl rfl Try.func15 (by kernel_rfl) rfl #[.agg #[.int .i64 t333, .int .i64 t334, .int .i64 t335, .int .i64 t336, .slice Ao32 t337.length co32]] rfl mt_ ?_; (with_reducible refine (spec_EtherOk.calls k t333 t334 t335 t336 _ _ t337 true _ ?side1 ?side2 A7.out).mono ?_); (case side1 => exact cr_ HO339); (case side2 => exact (Kd.R_reads' HO339.out).2.1); rintro e w37 ⟨rfl, hb⟩; refine ⟨_, rfl, ?_⟩; have n0_ := Aside0.mk (Kd.R_below (kr_ HO339) hb); have n1_ := Aside0.mk (Kd.R_below (kr_ HO347) hb); have n2_ := Aside0.mk (Kd.R_below (kr_ HO350) hb); have n3_ := bb_ BK340 hb; have n4_ := Aside0.mk (below_step (bf_ HB) hb); clear HO339; clear HO347; clear HO350; clear BK340; clear HB; have HO339 := n0_; have HO347 := n1_; have HO350 := n2_; have BK340 := n3_; have HB := n4_; clear n0_ n1_ n2_ n3_ n4_; (try clear hb); (try clear hb2); (try clear hk); (try clear hi); obtain ⟨Ao38, co38, eo38⟩ := Kd.R_slice HO350.out; subst eo38) | ((with_reducible refine gate_callee (f := 16) rfl ?_); refine goesL_ (some 22) rfl rfl Try.func16 (by kernel_rfl) rfl #[.slice Ao38 t348.length co38] rfl mt_ ?_; (with_reducible refine (impl_EtherRead.calls k _ _ t348 t352 t353 t354 t355 t356 t359 _ ?side1 ?side2 A9.out).mono ?_); (case side1 => exact cr_ HO350); (case side2 => exact (Kd.R_reads' HO350.out).2.1); rintro e w39 ⟨v357, rfl, ho0, hb⟩; refine ⟨_, rfl, ?_⟩; have n0_ := Aside0.mk (Kd.R_elder' (kr_ HO339) (Kd.R_base ho0) hb); have n1_ := Aside0.mk (Kd.R_elder' (kr_ HO347) (Kd.R_base ho0) hb); have n2_ := Aside0.mk (Kd.R_elder' (kr_ HO350) (Kd.R_base ho0) hb); have n3_ := Aside0.mk (Kd.R_lower (Kd.R_new' (Kd.R_new' (Kd.R_new' ho0 (Kd.R_lt (kr_ HO339))) (Kd.R_lt (kr_ HO347))) (Kd.R_lt (kr_ HO350))) (below_size (bf_ HB))); have n4_ := bb_ BK340 hb; have n5_ := Aside0.mk (below_step (bf_ HB) hb); clear HO339; clear HO347; clear HO350; clear BK340; clear HB; have HO339 := n0_; have HO347 := n1_; have HO350 := n2_; have HO358 := n3_; have BK340 := n4_; have HB := n5_; clear n0_ n1_ n2_ n3_ n4_ n5_; (try clear hb); (try clear hb2); (try clear hk); (try clear hi); (try clear ho0)) | ((with_reducible refine gate_dst (N := 5) rfl ?_); refine box_event ?hg (N := 5) ?hd (cs := #[.int .i64 0, .int .i64 0, .int .i64 0, .int .i64 0, .slice none 0 0]) (t := 32) ?hr ?_; (case hd => rfl); (case hg => rfl); (case hr => first | (go_simp; done) | (go_simp; rfl)); intro gb360 hg w40 hbox hb; have n0_ := Aside0.mk (Kd.R_below (kr_ HO339) hb); have n1_ := Aside0.mk (Kd.R_below (kr_ HO347) hb); have n2_ := Aside0.mk (Kd.R_below (kr_ HO350) hb); have n3_ := Aside0.mk (Kd.R_below (kr_ HO358) hb); have n4_ := bb_ BK340 hb; have n5_ := Aside0.mk (below_step (bf_ HB) hb); have n6_ := Aside0.mk (hbox); have n7_ := gw_ HB hg; have n8_ := gw_ HB hg; have n9_ := nl_ BK340 hg; have n10_ := ng_ BK340 hg; clear HO339; clear HO347; clear HO350; clear HO358; clear BK340; clear HB; have HO339 := n0_; have HO347 := n1_; have HO350 := n2_; have HO358 := n3_; have BK340 := n4_; have HB := n5_; have BK360 := n6_; have GW360 := n7_; have GE360 := n8_; have NB340_360 := n9_; have NB360_340 := n10_; clear n0_ n1_ n2_ n3_ n4_ n5_ n6_ n7_ n8_ n9_ n10_; clear hb hbox hg; have hnb41 := NB360_340.out; have hnc41 := NB340_360.out; have hcz42_0 := bc_ BK360 0 (.int .i64 0) rfl; have hcz42_1 := bc_ BK360 1 (.int .i64 0) rfl; have hcz42_2 := bc_ BK360 2 (.int .i64 0) rfl; have hcz42_3 := bc_ BK360 3 (.int .i64 0) rfl; have hcz42_4 := bc_ BK360 4 (.slice none 0 0) rfl; have hfz42_0 := blk_frozen BK360.out 0; have hfz42_1 := blk_frozen BK360.out 1; have hfz42_2 := blk_frozen BK360.out 2; have hfz42_3 := blk_frozen BK360.out 3; have hfz42_4 := blk_frozen BK360.out 4; obtain ⟨Ao43, co43, eo43⟩ := Kd.R_slice HO358.out; subst eo43))
    go_ret
    exact ⟨by first | rfl | (simp [errW_none, errW_some] <;> rfl) | (simp [*, errW_none, errW_some] <;> rfl), bf_ HB⟩
  ·replace c8 := Bool.eq_false_iff.mpr c8
   subst c8
   have H1 : (some ((t348.length : Int) == 0)) = some r := by rw [if_neg (show ¬ (false = true) by decide)] at H; exact H
   clear H
   have H := H1
   clear H1
   obtain rfl := Option.some.inj H
   go_enter Try.func4, Try.ntmps4
   go_wp2_with (first | ((with_reducible refine gate_callee (f := 9) rfl ?_); refine goesL_ (some 8) rfl rfl Try.func9 (by kernel_rfl) rfl #[.slice A0 l0.length c0] rfl mt_ ?_; (with_reducible refine (laws_big.calls _ _ l0 false _ ?side1 ?side2 A2.out).mono ?_); (case side1 => repeat (first | exact HR0.out | (with_reducible refine Kd.C_alloc ?_ _) | (with_reducible refine Kd.C_drewN ?_ _) | (with_reducible refine Kd.C_drew ?_))); (case side2 => exact HC0.out); rintro e w' ⟨rfl, ⟨nd, rfl⟩⟩; refine ⟨_, rfl, ?_⟩) | ((with_reducible refine gate_callee (f := 13) rfl ?_); refine goesL_ (some 10) rfl rfl Try.func13 (by kernel_rfl) rfl #[.slice A0 l0.length c0] rfl mt_ ?_; (with_reducible refine (spec_DrawEtherBytes.calls k _ _ l0 t333 t334 t335 t336 t337 _ ?side1 ?side2 A4.out).mono ?_); (case side1 => repeat (first | exact HR0.out | (with_reducible refine Kd.C_alloc ?_ _) | (with_reducible refine Kd.C_drewN ?_ _) | (with_reducible refine Kd.C_drew ?_))); (case side2 => exact HC0.out); rintro e w44 ⟨v338, rfl, ho0, hb⟩; refine ⟨_, rfl, ?_⟩; have n0_ := Aside0.mk (Kd.R_lower ho0 (below_size (be_ HB))); have n1_ := Aside0.mk (below_step (be_ HB) hb); clear HB; have HO339 := n0_; have HB := n1_; clear n0_ n1_; (try clear hb); (try clear hb2); (try clear hk); (try clear hi); (try clear ho0)) | ((with_reducible refine gate_dst (N := 3) rfl ?_); refine box_event ?hg (N := 3) ?hd (cs := #[.int .i64 0, .int .i64 0, .int .i64 0, .int .i64 0, .slice none 0 0]) (t := 32) ?hr ?_; (case hd => rfl); (case hg => rfl); (case hr => first | (go_simp; done) | (go_simp; rfl)); intro gb340 hg w45 hbox hb; have n0_ := Aside0.mk (Kd.R_below (kr_ HO339) hb); have n1_ := Aside0.mk (below_step (be_ HB) hb); have n2_ := Aside0.mk (hbox); have n3_ := gw_ HB hg; have n4_ := gw_ HB hg; clear HO339; clear HB; have HO339 := n0_; have HB := n1_; have BK340 := n2_; have GW340 := n3_; have GE340 := n4_; clear n0_ n1_ n2_ n3_ n4_; clear hb hbox hg; have hcz46_0 := bc_ BK340 0 (.int .i64 0) rfl; have hcz46_1 := bc_ BK340 1 (.int .i64 0) rfl; have hcz46_2 := bc_ BK340 2 (.int .i64 0) rfl; have hcz46_3 := bc_ BK340 3 (.int .i64 0) rfl; have hcz46_4 := bc_ BK340 4 (.slice none 0 0) rfl; have hfz46_0 := blk_frozen BK340.out 0; have hfz46_1 := blk_frozen BK340.out 1; have hfz46_2 := blk_frozen BK340.out 2; have hfz46_3 := blk_frozen BK340.out 3; have hfz46_4 := blk_frozen BK340.out 4; obtain ⟨Ao47, co47, eo47⟩ := Kd.R_slice HO339.out; subst eo47) | ((with_reducible refine gate_callee (f := 13) rfl ?_); refine goesL_ (some 12) rfl rfl Try.func13 (by kernel_rfl) rfl #[.slice A0 l0.length c0] rfl mt_ ?_; (with_reducible refine (spec_DrawEtherBytes.calls k _ _ l0 t341 t342 t343 t344 t345 _ ?side1 ?side2 A5.out).mono ?_); (case side1 => exact Kd.C_below HR0.out (bf_ HB)); (case side2 => exact HC0.out); rintro e w48 ⟨v346, rfl, ho0, hb⟩; refine ⟨_, rfl, ?_⟩; have n0_ := Aside0.mk (Kd.R_elder' (by (with_reducible repeat (first | apply Kd.R_alloc | apply Kd.R_drewN | apply Kd.R_drew)); exact (rf5_ HO339 BK340 (.int .i64 t333) (.int .i64 t334) (.int .i64 t335) (.int .i64 t336) (.slice Ao47 t337.length co47))) (Kd.R_base ho0) hb); have n1_ := Aside0.mk (Kd.R_lower (Kd.R_new' ho0 (Kd.R_lt (by (with_reducible repeat (first | apply Kd.R_alloc | apply Kd.R_drewN | apply Kd.R_drew)); exact (rf5_ HO339 BK340 (.int .i64 t333) (.int .i64 t334) (.int .i64 t335) (.int .i64 t336) (.slice Ao47 t337.length co47))))) (below_size (bf_ HB))); have n2_ := Aside0.mk (blk_below (g := gb340) (o := .cells #[.int .i64 t333, .int .i64 t334, .int .i64 t335, .int .i64 t336, .slice Ao47 t337.length co47] 32 (0, 0)) (by (with_reducible repeat (first | refine blk_drewN ?_ _ | refine blk_drew ?_ | refine blk_alloc ?_ _)); refine blk_put (cs := #[.int .i64 t333, .int .i64 t334, .int .i64 t335, .int .i64 t336, .slice none 0 0]) ?_ 4 _ rfl; (with_reducible repeat (first | refine blk_drewN ?_ _ | refine blk_drew ?_ | refine blk_alloc ?_ _)); refine blk_put (cs := #[.int .i64 t333, .int .i64 t334, .int .i64 t335, .int .i64 0, .slice none 0 0]) ?_ 3 _ rfl; (with_reducible repeat (first | refine blk_drewN ?_ _ | refine blk_drew ?_ | refine blk_alloc ?_ _)); refine blk_put (cs := #[.int .i64 t333, .int .i64 t334, .int .i64 0, .int .i64 0, .slice none 0 0]) ?_ 2 _ rfl; (with_reducible repeat (first | refine blk_drewN ?_ _ | refine blk_drew ?_ | refine blk_alloc ?_ _)); refine blk_put (cs := #[.int .i64 t333, .int .i64 0, .int .i64 0, .int .i64 0, .slice none 0 0]) ?_ 1 _ rfl; (with_reducible repeat (first | refine blk_drewN ?_ _ | refine blk_drew ?_ | refine blk_alloc ?_ _)); refine blk_put (cs := #[.int .i64 0, .int .i64 0, .int .i64 0, .int .i64 0, .slice none 0 0]) ?_ 0 _ rfl; exact bk_ BK340) hb); have n3_ := Aside0.mk (below_step (bf_ HB) hb); clear HO339; clear BK340; clear HB; have HO339 := n0_; have HO347 := n1_; have BK340 := n2_; have HB := n3_; clear n0_ n1_ n2_ n3_; (try clear hb); (try clear hb2); (try clear hk); (try clear hi); (try clear ho0); obtain ⟨Ao49, co49, eo49⟩ := Kd.R_slice HO347.out; subst eo49) | ((with_reducible refine gate_callee (f := 14) rfl ?_); refine goesL_ (some 13) rfl rfl Try.func14 (by kernel_rfl) rfl #[.agg #[.int .i64 t341, .int .i64 t342, .int .i64 t343, .int .i64 t344, .slice Ao49 t345.length co49]] rfl mt_ ?_; (with_reducible refine (impl_EtherBytes.calls k t341 t342 t343 t344 (fun k_ => some k_ = (.slice Ao49 t345.length co49 : Value).ownBlock) _ _ t345 t348 _ ?side1 A6.out).mono ?_); (case side1 => exact Kd.R_V (Kd.R_tight rfl (Kd.R_types (HO347.out) BK340.out (by decide)))); rintro e w50 ⟨v349, rfl, ho0, hb⟩; refine ⟨_, rfl, ?_⟩; have n0_ := Aside0.mk (Kd.R_elder' (kr_ HO339) (Kd.R_base ho0) hb); have n1_ := Aside0.mk (Kd.R_elder' (kr_ HO347) (Kd.R_base ho0) hb); have n2_ := Aside0.mk (Kd.R_lower (Kd.R_new' (Kd.R_new' (Kd.R_mono (ok' := fun k_ => True) ho0 (fun _ hk_ => trivial)) (Kd.R_lt (kr_ HO339))) (Kd.R_lt (kr_ HO347))) (below_size (bf_ HB))); have n3_ := bb_ BK340 hb; have n4_ := Aside0.mk (below_step (bf_ HB) hb); clear HO339; clear HO347; clear BK340; clear HB; have HO339 := n0_; have HO347 := n1_; have HO350 := n2_; have BK340 := n3_; have HB := n4_; clear n0_ n1_ n2_ n3_ n4_; (try clear hb); (try clear hb2); (try clear hk); (try clear hi); (try clear ho0); have hcz51_0 := bc_ BK340 0 (.int .i64 t333) rfl; have hcz51_1 := bc_ BK340 1 (.int .i64 t334) rfl; have hcz51_2 := bc_ BK340 2 (.int .i64 t335) rfl; have hcz51_3 := bc_ BK340 3 (.int .i64 t336) rfl; have hcz51_4 := bc_ BK340 4 (.slice Ao47 t337.length co47) rfl; have hfz51_0 := blk_frozen BK340.out 0; have hfz51_1 := blk_frozen BK340.out 1; have hfz51_2 := blk_frozen BK340.out 2; have hfz51_3 := blk_frozen BK340.out 3; have hfz51_4 := blk_frozen BK340.out 4) | ((with_reducible refine gate_callee (f := 15) rfl ?_); refine goesL_ (some 15) rfl rfl Try.func15 (by kernel_rfl) rfl #[.agg #[.int .i64 t333, .int .i64 t334, .int .i64 t335, .int .i64 t336, .slice Ao47 t337.length co47]] rfl mt_ ?_; (with_reducible refine (spec_EtherOk.calls k t333 t334 t335 t336 _ _ t337 false _ ?side1 ?side2 A7.out).mono ?_); (case side1 => exact cr_ HO339); (case side2 => exact (Kd.R_reads' HO339.out).2.1); rintro e w52 ⟨rfl, hb⟩; refine ⟨_, rfl, ?_⟩; have n0_ := Aside0.mk (Kd.R_below (kr_ HO339) hb); have n1_ := Aside0.mk (Kd.R_below (kr_ HO347) hb); have n2_ := Aside0.mk (Kd.R_below (kr_ HO350) hb); have n3_ := bb_ BK340 hb; have n4_ := Aside0.mk (below_step (bf_ HB) hb); clear HO339; clear HO347; clear HO350; clear BK340; clear HB; have HO339 := n0_; have HO347 := n1_; have HO350 := n2_; have BK340 := n3_; have HB := n4_; clear n0_ n1_ n2_ n3_ n4_; (try clear hb); (try clear hb2); (try clear hk); (try clear hi); obtain ⟨Ao53, co53, eo53⟩ := Kd.R_slice HO350.out; subst eo53))
   go_ret
   exact ⟨by first | rfl | (simp [errW_none, errW_some] <;> rfl) | (simp [*, errW_none, errW_some] <;> rfl), bf_ HB⟩

/-- THE ONE PURE STATEMENT of laws_FnEtherBack: yours. -/
def laws_FnEtherBack.Pure : Prop := ∀ (l0 : List Int), l0.length ≤ maxLen → l0.length * 1 ≤ 140737488351232 → (∀ x ∈ l0, (Lit.int .u8 x).wf = true) → ∃ k, laws_FnEtherBack.f k l0 = some true
theorem laws_FnEtherBack.walk (P : laws_FnEtherBack.Pure) (a0 : Option Addr) (len0 cap0 : Nat) (z0 : List Int) (w : World) (w0 : (a0 = none ∧ len0 = 0 ∧ cap0 = 0 ∧ z0 = []) ∨ ∃ x, a0 = some x ∧ len0 ≤ cap0 ∧ cap0 ≤ maxLen ∧ z0.length = cap0 ∧ (∀ i, i < z0.length → w.cell? (x.add i) = some (.int .u8 (z0.getD i 0))) ∧ ∀ n ∈ z0, (Lit.int .u8 n).wf = true) (y0 : len0 * 1 ≤ 140737488351232) :
  Calls Try.prog 4 #[.slice a0 len0 cap0] w fun e w' => e = .returned (.bool true) ∧ Below w.heap.size w w' := by
 obtain ⟨l0, rfl, hr0, hm0, hw0, hc0⟩ := ReadsInt.ofRowC w0
 obtain ⟨k, h⟩ := P l0 hm0 y0 hw0
 refine (laws_FnEtherBack.calls k _ _ l0 true w (Kd.C_of_reads (d := (0 : Int)) (h1 := fun _ => rfl) hr0) hc0 h).mono ?_
 rintro e w' ⟨rfl, hd⟩
 exact ⟨rfl, hd⟩

end Go.Proofs.Ytpoiljfjddehcaa.PFnEtherBack
