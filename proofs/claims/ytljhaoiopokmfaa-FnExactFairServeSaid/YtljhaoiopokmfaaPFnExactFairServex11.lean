-- printed by a program of this session (wip/printx) out of the translation; Lean checks it
import Derived.Test.YtljhaoiopokmfaaVFnExactFairServe
import Derived.Test.YtljhaoiopokmfaaPFnExactFairServex0
import Derived.Test.YtljhaoiopokmfaaPFnExactFairServex7
namespace Go.Proofs.Ytljhaoiopokmfaa.PFnExactFairServe
open Go.RowKit Go.Proofs.YtljhaoiopokmfaaW.PrintWords Go.Proofs.YtljhaoiopokmfaaW.PrintLast Go.Proofs.YtljhaoiopokmfaaW.PrintMore
attribute [local go_sem] max2_int min2_int max_two min_two max_three min_three max_four min_four   -- for this text's walks alone
set_option linter.unusedVariables false
set_option linter.unusedSimpArgs false

/-! ### spec_ChargeOk: function 77 -/
def spec_ChargeOk.f (a0_0 : Int) (a0_1 : Int) (a0_2 : Int) : Option (Bool) := (spec_l13All.f a0_0 a0_1 a0_2 1 2000).bind fun t318 => (some t318)
set_option maxHeartbeats 8000000 in
set_option maxRecDepth 100000 in
theorem spec_ChargeOk.calls (a0_0 : Int) (a0_1 : Int) (a0_2 : Int) (r : Bool) (w : World) (h : spec_ChargeOk.f a0_0 a0_1 a0_2 = some r) :
  Calls Try.prog 77 #[.agg #[.int .i64 a0_0, .int .i64 a0_1, .int .i64 a0_2]] w fun e w' => e = .returned (.bool r) ∧ Below w.heap.size w w' := by
 have hu29 := Try.underlying29; have HB := Aside0.mk (Below.refl w.heap.size w)
 have H : ((spec_l13All.f a0_0 a0_1 a0_2 1 2000).bind fun t318 => (some t318)) = some r := h
 clear h
 replace H := Option.bind_eq_some_iff.mp H
 obtain ⟨t318, A20, H⟩ := H
 replace H : (some t318) = some r := H
 have A2 := Aside0.mk A20
 clear A20
 obtain rfl := Option.some.inj H
 go_enter Try.func77, Try.ntmps77
 go_wp2_with (first | ((with_reducible refine gd_ 1 rfl ?_); refine bv_ 1 #[.int .i64 a0_0, .int .i64 a0_1, .int .i64 a0_2] 29 ?_; intro gb317 hg w3 hbox hb; have BK317 := Aside0.mk (hbox); have GW317 := gw_ HB hg; have GE317 := gw_ HB hg; replace HB := Aside0.mk (below_step (be_ HB) hb); clear hb hbox hg; obtain ⟨hcz4_0, hcz4_1, hcz4_2, hfz4_0, hfz4_1, hfz4_2⟩ := bz3_ BK317) | ((with_reducible refine gc_ 107 rfl ?_); refine gl_ 4 Try.func107 #[.agg #[.int .i64 a0_0, .int .i64 a0_1, .int .i64 a0_2], .int .i64 1, .int .i64 2000] ?_; (with_reducible refine (spec_l13All.calls a0_0 a0_1 a0_2 1 2000 t318 _ A2.out).mono ?_); rintro e w5 ⟨rfl, hb⟩; refine ⟨_, rfl, ?_⟩; replace BK317 := bb_ BK317 hb; replace HB := Aside0.mk (below_step (bf_ HB) hb); (try clear hb); (try clear hb2); (try clear hk); (try clear hi)))
 go_ret
 exact ⟨by first | rfl | (simp [errW_none, errW_some] <;> rfl) | (simp [*, errW_none, errW_some] <;> rfl), bf_ HB⟩

/-! ### spec_l13List: function 108 -/
def spec_l13List.f (a0_0 : Int) (a0_1 : Int) (a0_2 : Int) : Option (List Int) := some (([a0_0, a0_1, a0_2] : List Int))
set_option maxHeartbeats 8000000 in
set_option maxRecDepth 100000 in
theorem spec_l13List.calls (a0_0 : Int) (a0_1 : Int) (a0_2 : Int) (r : List Int) (w : World) (h : spec_l13List.f a0_0 a0_1 a0_2 = some r) :
  Calls Try.prog 108 #[.agg #[.int .i64 a0_0, .int .i64 a0_1, .int .i64 a0_2]] w fun e w' => ∃ v0_ : Value, e = .returned (v0_) ∧ Kd.R (Kd.int .i64) 3 w' w.heap.size (fun _ => True) v0_ r ∧ Below w.heap.size w w' := by
 have hu29 := Try.underlying29; have HB := Aside0.mk (Below.refl w.heap.size w)
 have H : (some (([a0_0, a0_1, a0_2] : List Int))) = some r := h
 clear h
 obtain ⟨y320, hy320⟩ : ∃ y_ : List Int, y_ = (([a0_0, a0_1, a0_2] : List Int)) := ⟨_, rfl⟩
 replace H : (some y320) = some r := by first | (rw [hy320]; with_reducible exact H) | (have H2_ := (Option.bind_some _ _).symm.trans H; rw [hy320]; with_reducible exact H2_) | (have H2_ := (Option.bind_some _ _).symm.trans H; with_reducible exact H2_) | with_reducible exact H | (rw [hy320]; exact H) | exact H
 have Ny320 := Aside0.mk hy320
 clear hy320
 obtain rfl := Option.some.inj H
 go_enter Try.func108, Try.ntmps108
 go_wp2_with (first | ((with_reducible refine gd_ 1 rfl ?_); refine bv_ 1 #[.int .i64 a0_0, .int .i64 a0_1, .int .i64 a0_2] 29 ?_; intro gb319 hg w2 hbox hb; have BK319 := Aside0.mk (hbox); have GW319 := gw_ HB hg; have GE319 := gw_ HB hg; replace HB := Aside0.mk (below_step (be_ HB) hb); clear hb hbox hg; obtain ⟨hcz3_0, hcz3_1, hcz3_2, hfz3_0, hfz3_1, hfz3_2⟩ := bz3_ BK319) | ((with_reducible refine gd_ 9 rfl ?_); refine Kd.R_lit (Kd.int .i64) _ 3 ?hg (N := 9) ?hd (xs := ([a0_0, a0_1, a0_2] : List Int)) (inner := [.int .i64 a0_0, .int .i64 a0_1, .int .i64 a0_2]) (ok := fun _ => True) (okp := fun _ => True) ?hr ?hp (fun _ hk => by first | exact hk | grind) trivial (Below.refl _ _) (Nat.le_refl _) (by simp) ?_; (case hd => rfl); (case hg => rfl); (case hr => first | (go_simp; done) | (go_simp; rfl)); (case hp => exact (Reps.one (show Kd.M (Kd.int .i64) _ _ _ a0_0 [.int .i64 a0_0] from rfl) (Reps.one (show Kd.M (Kd.int .i64) _ _ _ a0_1 [.int .i64 a0_1] from rfl) (Reps.one (show Kd.M (Kd.int .i64) _ _ _ a0_2 [.int .i64 a0_2] from rfl) (Reps.none _ _))))); intro v321 w4 ho5 hb hg_ hnew_; clear hg_ hnew_; (first | rw [← Ny320.out] at ho5 | (simp only [Int.reduceToNat] at ho5; rw [← Ny320.out] at ho5)); have HO322 := Aside0.mk (Kd.R_lower ho5 (below_size (bf_ HB))); replace BK319 := bb_ BK319 hb; replace HB := Aside0.mk (below_step (bf_ HB) hb); clear hb ho5))
 go_ret
 exact ⟨_, by first | rfl | (simp [errW_none, errW_some] <;> rfl) | (simp [*, errW_none, errW_some] <;> rfl), by (with_reducible repeat (first | apply Kd.R_alloc | apply Kd.R_drewN | apply Kd.R_drew)); exact HO322.out, bf_ HB⟩

/-! ### spec_l13Of: function 109 -/
def spec_l13Of.f (l0 : List Int) : Option (Int × Int × Int) := if 0 < (l0.length : Int) then (if 1 < (l0.length : Int) then (if 2 < (l0.length : Int) then (some (rd l0 0, rd l0 1, rd l0 2)) else (none)) else (none)) else (none)
def spec_l13Of.T1 : Bool × List (List Nat × List Nat) := (true, [([], []), ([0], [0]), ([1], [1]), ([], []), ([3], [3]), ([4], [4]), ([], []), ([6], [6]), ([7], [7]), ([2, 5, 8], [2, 5, 8]), ([9, 0, 1, 2, 3, 4, 5, 6, 7, 8, 9], [9])])
def spec_l13Of.B1 : List Nat := [0, 1, 3, 0, 8, 24, 0, 64, 192, 511, 1023]
theorem spec_l13Of.tab1 : rtab .any (opsOf Try.f109 1) = spec_l13Of.T1 := by kernel_rfl
theorem spec_l13Of.bits1 : waitsOk spec_l13Of.T1.2 spec_l13Of.B1 = true := by kernel_rfl
set_option maxHeartbeats 8000000 in
set_option maxRecDepth 100000 in
theorem spec_l13Of.calls (A0 : Option Addr) (c0 : Nat) (l0 : List Int) (r1 : Int) (r2 : Int) (r3 : Int) (w : World) (hr0 : Kd.C (Kd.int .i64) w A0 l0.length l0) (hc0 : l0.length ≤ c0) (h : spec_l13Of.f l0 = some (r1, r2, r3)) :
  Calls Try.prog 109 #[.slice A0 l0.length c0] w fun e w' => e = .returned (.agg #[.int .i64 r1, .int .i64 r2, .int .i64 r3]) ∧ Below w.heap.size w w' := by
 have hu29 := Try.underlying29
 have HR0 := Aside0.mk hr0
 have HC0 := Aside0.mk hc0
 clear hr0 hc0; have HB := Aside0.mk (Below.refl w.heap.size w)
 have H : (if 0 < (l0.length : Int) then (if 1 < (l0.length : Int) then (if 2 < (l0.length : Int) then (some (rd l0 0, rd l0 1, rd l0 2)) else (none)) else (none)) else (none)) = some (r1, r2, r3) := h
 clear h
 by_cases c2 : 0 < (l0.length : Int)
 ·rw [if_pos c2] at H
  have c2b0 : decide (0 < (l0.length : Int)) = true := decide_eq_true c2
  have c2b1 : decide (0 < l0.length) = true := decide_eq_true (by omega)
  clear c2
  by_cases c3 : 1 < (l0.length : Int)
  ·rw [if_pos c3] at H
   have c3b0 : decide (1 < (l0.length : Int)) = true := decide_eq_true c3
   have c3b1 : decide (1 < l0.length) = true := decide_eq_true (by omega)
   clear c3
   by_cases c4 : 2 < (l0.length : Int)
   ·rw [if_pos c4] at H
    have c4b0 : decide (2 < (l0.length : Int)) = true := decide_eq_true c4
    have c4b1 : decide (2 < l0.length) = true := decide_eq_true (by omega)
    clear c4
    simp only [Option.some.injEq, Prod.mk.injEq] at H
    obtain ⟨rfl, rfl, rfl⟩ := H
    go_enter Try.func109, Try.ntmps109
    try go_wp2_with (first | ((with_reducible refine gd_ 2 rfl ?_); refine bv_ 2 #[.int .i64 0, .int .i64 0, .int .i64 0] 29 ?_; intro gb323 hg w5 hbox hb; have BK323 := Aside0.mk (hbox); have GW323 := gw_ HB hg; have GE323 := gw_ HB hg; replace HB := Aside0.mk (below_step (be_ HB) hb); clear hb hbox hg))
    replace BK323 := Aside0.mk (blk_drew BK323.out); replace HB := Aside0.mk (below_drew1 HB.out)
    have p324 : 0 ≤ (0 : Int) := (by omega)
    have q324 : 0 < (l0.length : Int) := od_
    obtain ⟨ad324, e324, hx324_0⟩ := Kd.at_int HR0.out 0 p324 q324
    have hw324_0 := hx324_0
    (try rw [show ((0 : Int)).toNat = 0 from rfl] at hw324_0)
    (try rw [show 0 * 1 = 0 from rfl] at hw324_0)
    (try rw [Addr.add_zero'] at hw324_0)
    cases e324
    have qi324 : (0 < l0.length) = True := eq_true (by omega)
    (try rw [show ((0 : Int)).toNat = 0 from rfl] at hx324_0)
    (try rw [Addr.add_zero'] at hx324_0)
    replace hx324_0 := hb_ HB hx324_0
    replace p324 := eq_true p324
    replace q324 := eq_true q324
    have p325 : 0 ≤ (1 : Int) := (by omega)
    have q325 : 1 < (l0.length : Int) := od_
    obtain ⟨ad325, e325, hx325_0⟩ := Kd.at_int HR0.out 1 p325 q325
    have hw325_0 := hx325_0
    (try rw [show ((1 : Int)).toNat = 1 from rfl] at hw325_0)
    (try rw [show 1 * 1 = 1 from rfl] at hw325_0)
    (try simp only [Nat.reduceMul, Nat.reduceEqDiff, Go.Addr.add, ↓reduceIte] at hw325_0)
    obtain rfl : ad324 = ad325 := (by injection e325)
    (try simp only [show (1 : Int).toNat = 1 from rfl, Nat.reduceMul, Nat.reduceEqDiff, Go.Addr.add, ↓reduceIte] at hx325_0)
    have qi325 : (1 < l0.length) = True := eq_true (by omega)
    (try rw [show ((1 : Int)).toNat = 1 from rfl] at hx325_0)
    replace hx325_0 := hb_ HB hx325_0
    replace p325 := eq_true p325
    replace q325 := eq_true q325
    have p326 : 0 ≤ (2 : Int) := (by omega)
    have q326 : 2 < (l0.length : Int) := od_
    obtain ⟨ad326, e326, hx326_0⟩ := Kd.at_int HR0.out 2 p326 q326
    have hw326_0 := hx326_0
    (try rw [show ((2 : Int)).toNat = 2 from rfl] at hw326_0)
    (try rw [show 2 * 1 = 2 from rfl] at hw326_0)
    (try simp only [Nat.reduceMul, Nat.reduceEqDiff, Go.Addr.add, ↓reduceIte] at hw326_0)
    obtain rfl : ad324 = ad326 := (by injection e326)
    (try simp only [show (2 : Int).toNat = 2 from rfl, Nat.reduceMul, Nat.reduceEqDiff, Go.Addr.add, ↓reduceIte] at hx326_0)
    have qi326 : (2 < l0.length) = True := eq_true (by omega)
    (try rw [show ((2 : Int)).toNat = 2 from rfl] at hx326_0)
    replace hx326_0 := hb_ HB hx326_0
    replace p326 := eq_true p326
    replace q326 := eq_true q326
    refine start_ (n := 11) (S := fun w' => w'.cell? ad324 = some (.int .i64 (rd l0 0)) ∧ w'.cell? ⟨ad324.block, ad324.off + 1, none⟩ = some (.int .i64 (rd l0 1)) ∧ w'.cell? ⟨ad324.block, ad324.off + 2, none⟩ = some (.int .i64 (rd l0 2))) (ds := []) (bs 11 0) (by kernel_rfl) rfl rfl ⟨(hd_ HB hw324_0), (hd_ HB hw325_0), (hd_ HB hw326_0)⟩ (fun hHeld => ?_); refine with_tabW spec_l13Of.tab1 spec_l13Of.bits1 (fun HT_ HW_ => ?_)
    generalize w5.drew = w6 at BK323 HB hx324_0 hx325_0 hx326_0 hHeld ⊢
    refine ps_ 0 3 (bs 11 1) HT_ ?_
    refine ps_ 1 4 (bs 11 2) HT_ ?_
    refine ps_ 3 6 (bm 11 11) HT_ ?_
    refine ps_ 4 7 (bm 11 27) HT_ ?_
    refine ps_ 6 9 (bm 11 91) HT_ ?_
    refine ps_ 7 10 (bm 11 219) HT_ ?_
    refine tk_ 2 5 (bm 11 223) HT_ HW_ hHeld ?_
    refine tk_ 5 8 (bs 11 8) HT_ HW_ hHeld ?_
    refine tk_ 8 11 (bs 11 9) HT_ HW_ hHeld ?_
    refine ps_ 9 12 (bs 11 10) HT_ ?_
    refine on_ 10 none (bs 11 11) HT_ (fun K hK => ?_)
    have hs7 := bc_ BK323 0 (.int .i64 0) rfl; have hfs7 := blk_frozen BK323.out 0; have hs8 := bc_ BK323 1 (.int .i64 0) rfl; have hfs8 := blk_frozen BK323.out 1; have hs9 := bc_ BK323 2 (.int .i64 0) rfl; have hfs9 := blk_frozen BK323.out 2
    refine skip_ (w1 := ?_) (by rfl) rfl ?_ ?_
    rotate_left
    ·go_simp
     rfl
    refine hK.out _ _ ⟨(cf3_ (by first | exact Nat.ne_of_lt (Nat.lt_of_lt_of_le (by have := World.block_lt_of_cell? _ _ hw324_0; first | rwa [add_block] at this | exact this) GW323.out) | (rw [add_block]; exact Nat.ne_of_lt (Nat.lt_of_lt_of_le (by have := World.block_lt_of_cell? _ _ hw324_0; first | rwa [add_block] at this | exact this) GW323.out)) | (show (Addr.add _ _).block ≠ _; rw [add_block]; exact Nat.ne_of_lt (Nat.lt_of_lt_of_le (by have := World.block_lt_of_cell? _ _ hw324_0; first | rwa [add_block] at this | exact this) GW323.out)) | (dsimp only; exact Nat.ne_of_lt (Nat.lt_of_lt_of_le (by have := World.block_lt_of_cell? _ _ hw324_0; first | rwa [add_block] at this | exact this) GW323.out))) hHeld.1), (cf3_ (by first | exact Nat.ne_of_lt (Nat.lt_of_lt_of_le (by have := World.block_lt_of_cell? _ _ hw325_0; first | rwa [add_block] at this | exact this) GW323.out) | (rw [add_block]; exact Nat.ne_of_lt (Nat.lt_of_lt_of_le (by have := World.block_lt_of_cell? _ _ hw325_0; first | rwa [add_block] at this | exact this) GW323.out)) | (show (Addr.add _ _).block ≠ _; rw [add_block]; exact Nat.ne_of_lt (Nat.lt_of_lt_of_le (by have := World.block_lt_of_cell? _ _ hw325_0; first | rwa [add_block] at this | exact this) GW323.out)) | (dsimp only; exact Nat.ne_of_lt (Nat.lt_of_lt_of_le (by have := World.block_lt_of_cell? _ _ hw325_0; first | rwa [add_block] at this | exact this) GW323.out))) hHeld.2.1), (cf3_ (by first | exact Nat.ne_of_lt (Nat.lt_of_lt_of_le (by have := World.block_lt_of_cell? _ _ hw326_0; first | rwa [add_block] at this | exact this) GW323.out) | (rw [add_block]; exact Nat.ne_of_lt (Nat.lt_of_lt_of_le (by have := World.block_lt_of_cell? _ _ hw326_0; first | rwa [add_block] at this | exact this) GW323.out)) | (show (Addr.add _ _).block ≠ _; rw [add_block]; exact Nat.ne_of_lt (Nat.lt_of_lt_of_le (by have := World.block_lt_of_cell? _ _ hw326_0; first | rwa [add_block] at this | exact this) GW323.out)) | (dsimp only; exact Nat.ne_of_lt (Nat.lt_of_lt_of_le (by have := World.block_lt_of_cell? _ _ hw326_0; first | rwa [add_block] at this | exact this) GW323.out))) hHeld.2.2)⟩ (fun hHeld => ?_)
    clear hK K
    refine done_ (done_of HT_.out (by kernel_rfl)) ?_
    try go_wp2
    refine bodyPost_ret (results_cell_row rfl _ _ gb323 29 #[.int .i64 (rd l0 0), .int .i64 (rd l0 1), .int .i64 (rd l0 2)] (0, 0) _ rfl (by (with_reducible repeat (first | refine blk_drewN ?_ _ | refine blk_drew ?_ | refine blk_alloc ?_ _)); refine blk_put (cs := #[.int .i64 (rd l0 0), .int .i64 (rd l0 1), .int .i64 0]) ?_ 2 _ rfl; (with_reducible repeat (first | refine blk_drewN ?_ _ | refine blk_drew ?_ | refine blk_alloc ?_ _)); refine blk_put (cs := #[.int .i64 (rd l0 0), .int .i64 0, .int .i64 0]) ?_ 1 _ rfl; (with_reducible repeat (first | refine blk_drewN ?_ _ | refine blk_drew ?_ | refine blk_alloc ?_ _)); refine blk_put (cs := #[.int .i64 0, .int .i64 0, .int .i64 0]) ?_ 0 _ rfl; exact bk_ BK323) Try.underlying29 rfl (by kernel_rfl)) rfl ?_
    exact ⟨by first | rfl | (simp [errW_none, errW_some] <;> rfl) | (simp [*, errW_none, errW_some] <;> rfl), bf_ HB⟩
   ·rw [if_neg c4] at H
    exact absurd H (by simp)
  ·rw [if_neg c3] at H
   exact absurd H (by simp)
 ·rw [if_neg c2] at H
  exact absurd H (by simp)

/-! ### spec_Finish: function 78 -/
mutual
def spec_Finish.j0 : Nat → Int → Bool → Int → Int → Int → Int → Int → Int → Option (Int × Int × Int × Bool)
  | 0, _, _, _, _, _, _, _, _ => none
  | k + 1, x2, x23, x328000, x328001, x328002, x329000, x329001, x329002 => if x23 = true then (some (0, 0, 0, false)) else ((spec_l13List.f x328000 x328001 x328002).bind fun t333 => ((spec_l13List.f x329000 x329001 x329002).bind fun t336 => (spec_Finish.l0 k x2 t333 t336 0)))
def spec_Finish.l0 : Nat → Int → List Int → List Int → Int → Option (Int × Int × Int × Bool)
  | 0, _, _, _, _ => none
  | k + 1, x2, x8, x9, x10 => if x10 < 3 then (if 0 ≤ x10 then (if x10 < (x8.length : Int) then (if x10 < (x9.length : Int) then ((spec_Stride.f x2).bind fun t341 => (spec_Finish.l0 k x2 (x8.set (x10 : Int).toNat (wrap64 ((rd x8 x10) + (wrap64 ((rd x9 x10) * t341))))) x9 (wrap64 (x10 + 1)))) else (none)) else (none)) else (none)) else ((spec_l13Of.f x8).bind fun bt343 => ((spec_TagOk.f bt343.1 bt343.2.1 bt343.2.2).bind fun t346 => (if t346 = true then ((spec_l13Of.f x8).bind fun bt347 => (some (bt347.1, bt347.2.1, bt347.2.2, true))) else (some (0, 0, 0, false)))))
end
def spec_Finish.f (k : Nat) (a0_0 : Int) (a0_1 : Int) (a0_2 : Int) (a1_0 : Int) (a1_1 : Int) (a1_2 : Int) (a2 : Int) : Option (Int × Int × Int × Bool) := (spec_TagOk.f a0_0 a0_1 a0_2).bind fun t330 => (if t330 = true then ((spec_ChargeOk.f a1_0 a1_1 a1_2).bind fun t331 => (if t331 = true then ((spec_Stride.f a2).bind fun t332 => (spec_Finish.j0 k a2 (t332 == 0) a0_0 a0_1 a0_2 a1_0 a1_1 a1_2)) else (spec_Finish.j0 k a2 true a0_0 a0_1 a0_2 a1_0 a1_1 a1_2))) else (spec_Finish.j0 k a2 true a0_0 a0_1 a0_2 a1_0 a1_1 a1_2))
theorem spec_Finish.mono_l : ∀ k, (∀ y0 y1 y2 y3 y4 y5 y6 y7, LeO (spec_Finish.j0 k y0 y1 y2 y3 y4 y5 y6 y7) (spec_Finish.j0 (k + 1) y0 y1 y2 y3 y4 y5 y6 y7)) ∧ (∀ y0 y1 y2 y3, LeO (spec_Finish.l0 k y0 y1 y2 y3) (spec_Finish.l0 (k + 1) y0 y1 y2 y3))
 | 0 => ⟨fun _ _ _ _ _ _ _ _ r h => by simp [spec_Finish.j0] at h, fun _ _ _ _ r h => by simp [spec_Finish.l0] at h⟩
 | k + 1 => by
  obtain ⟨ih0, ih1⟩ := spec_Finish.mono_l k
  refine ⟨?_, ?_⟩
  ·intro y0 y1 y2 y3 y4 y5 y6 y7
   unfold spec_Finish.j0
   repeat' first
   | (with_reducible exact ih0 _ _ _ _ _ _ _ _)
   | (with_reducible exact ih1 _ _ _ _)
   | (with_reducible exact LeO.refl _)
   | (with_reducible exact LeO.none _)
   | (with_reducible refine LeO.ite ?_ ?_)
   | (with_reducible refine LeO.bind ?_ (fun _ => ?_))
   | exact ih0 _ _ _ _ _ _ _ _
   | exact ih1 _ _ _ _
   | exact LeO.none _
   | refine LeO.ite ?_ ?_
   | refine LeO.bind ?_ (fun _ => ?_)
  ·intro y0 y1 y2 y3
   unfold spec_Finish.l0
   repeat' first
   | (with_reducible exact ih0 _ _ _ _ _ _ _ _)
   | (with_reducible exact ih1 _ _ _ _)
   | (with_reducible exact LeO.refl _)
   | (with_reducible exact LeO.none _)
   | (with_reducible refine LeO.ite ?_ ?_)
   | (with_reducible refine LeO.bind ?_ (fun _ => ?_))
   | exact ih0 _ _ _ _ _ _ _ _
   | exact ih1 _ _ _ _
   | exact LeO.none _
   | refine LeO.ite ?_ ?_
   | refine LeO.bind ?_ (fun _ => ?_)
theorem spec_Finish.mono : ∀ a0 a1 a2 a3 a4 a5 a6 k, LeO (spec_Finish.f k a0 a1 a2 a3 a4 a5 a6) (spec_Finish.f (k + 1) a0 a1 a2 a3 a4 a5 a6) := by
 intro a0 a1 a2 a3 a4 a5 a6 k
 obtain ⟨ih0, ih1⟩ := spec_Finish.mono_l k
 unfold spec_Finish.f
 repeat' first
   | (with_reducible exact ih0 _ _ _ _ _ _ _ _)
   | (with_reducible exact ih1 _ _ _ _)
   | (with_reducible exact LeO.refl _)
   | (with_reducible exact LeO.none _)
   | (with_reducible refine LeO.ite ?_ ?_)
   | (with_reducible refine LeO.bind ?_ (fun _ => ?_))
   | exact ih0 _ _ _ _ _ _ _ _
   | exact ih1 _ _ _ _
   | exact LeO.none _
   | refine LeO.ite ?_ ?_
   | refine LeO.bind ?_ (fun _ => ?_)
def spec_Finish.T8 : Bool × List (List Nat × List Nat) := (true, [([], []), ([], []), ([], []), ([], []), ([2, 3], [2, 3]), ([4], [4]), ([], []), ([], []), ([6, 7], [6, 7]), ([8], [8]), ([], []), ([10], [10]), ([9, 11], [9, 11]), ([5, 12], [5, 12]), ([0, 1, 0, 1, 2, 3, 4, 5, 6, 7, 8, 9, 10, 11, 12, 13], [0, 1]), ([14, 13, 11, 0, 1, 2, 3, 4, 5, 6, 7, 8, 9, 10, 11, 12, 13], [13, 14])])
def spec_Finish.B8 : List Nat := [0, 0, 0, 0, 12, 28, 0, 0, 192, 448, 0, 1024, 4032, 8188, 16383, 32767]
theorem spec_Finish.tab8 : rtab .any (opsOf Try.f78 8) = spec_Finish.T8 := by kernel_rfl
theorem spec_Finish.bits8 : waitsOk spec_Finish.T8.2 spec_Finish.B8 = true := by kernel_rfl
set_option maxHeartbeats 8000000 in
set_option maxRecDepth 100000 in
theorem spec_Finish.calls (k : Nat) (a0_0 : Int) (a0_1 : Int) (a0_2 : Int) (a1_0 : Int) (a1_1 : Int) (a1_2 : Int) (a2 : Int) (r1 : Int) (r2 : Int) (r3 : Int) (r4 : Bool) (w : World) (h : spec_Finish.f k a0_0 a0_1 a0_2 a1_0 a1_1 a1_2 a2 = some (r1, r2, r3, r4)) :
  Calls Try.prog 78 #[.agg #[.int .i64 a0_0, .int .i64 a0_1, .int .i64 a0_2], .agg #[.int .i64 a1_0, .int .i64 a1_1, .int .i64 a1_2], .int .i64 a2] w fun e w' => e = .returned (.tuple #[.agg #[.int .i64 r1, .int .i64 r2, .int .i64 r3], .bool r4]) ∧ Below w.heap.size w w' := by
 have hu29 := Try.underlying29; have HB := Aside0.mk (Below.refl w.heap.size w)
 have H : ((spec_TagOk.f a0_0 a0_1 a0_2).bind fun t330 => (if t330 = true then ((spec_ChargeOk.f a1_0 a1_1 a1_2).bind fun t331 => (if t331 = true then ((spec_Stride.f a2).bind fun t332 => (spec_Finish.j0 k a2 (t332 == 0) a0_0 a0_1 a0_2 a1_0 a1_1 a1_2)) else (spec_Finish.j0 k a2 true a0_0 a0_1 a0_2 a1_0 a1_1 a1_2))) else (spec_Finish.j0 k a2 true a0_0 a0_1 a0_2 a1_0 a1_1 a1_2))) = some (r1, r2, r3, r4) := h
 clear h
 have HC4 := Aside0.mk H
 clear H
 go_enter Try.func78, Try.ntmps78
 go_upto_region 1 with (first | ((with_reducible refine gd_ 3 rfl ?_); refine bv_ 3 #[.int .i64 a0_0, .int .i64 a0_1, .int .i64 a0_2] 29 ?_; intro gb327 hg w5 hbox hb; have BK327 := Aside0.mk (hbox); have GW327 := gw_ HB hg; have GE327 := gw_ HB hg; replace HB := Aside0.mk (below_step (be_ HB) hb); clear hb hbox hg) | ((with_reducible refine gd_ 4 rfl ?_); refine bv_ 4 #[.int .i64 a1_0, .int .i64 a1_1, .int .i64 a1_2] 29 ?_; intro gb328 hg w6 hbox hb; have BK328 := Aside0.mk (hbox); have GW328 := gw_ HB hg; have GE328 := gw_ HB hg; replace HB := Aside0.mk (below_step (bf_ HB) hb); have NB327_328 := nl_ BK327 hg; have NB328_327 := ng_ BK327 hg; replace BK327 := bb_ BK327 hb; clear hb hbox hg) | ((with_reducible refine gd_ 6 rfl ?_); refine bv_ 6 #[.int .i64 0, .int .i64 0, .int .i64 0] 29 ?_; intro gb329 hg w7 hbox hb; have BK329 := Aside0.mk (hbox); have GW329 := gw_ HB hg; have GE329 := gw_ HB hg; replace HB := Aside0.mk (below_step (bf_ HB) hb); have NB327_329 := nl_ BK327 hg; have NB329_327 := ng_ BK327 hg; replace BK327 := bb_ BK327 hb; have NB328_329 := nl_ BK328 hg; have NB329_328 := ng_ BK328 hg; replace BK328 := bb_ BK328 hb; clear hb hbox hg))
 (try simp only [Act.put, ls0_, ls1_, ls2_])
 go_cut [23] (fun v23 wc => ∃ (kq : Nat) (x23_3 : Bool), v23 = .bool x23_3 ∧ Aside0 (spec_Finish.j0 kq a2 x23_3 a0_0 a0_1 a0_2 a1_0 a1_1 a1_2 = some (r1, r2, r3, r4)) ∧ Aside0 (kq ≤ k) ∧ Aside0 (wc.heap[gb327]? = some (.cells #[.int .i64 a0_0, .int .i64 a0_1, .int .i64 a0_2] 29 (0, 0))) ∧ Aside0 (wc.heap[gb328]? = some (.cells #[.int .i64 a1_0, .int .i64 a1_1, .int .i64 a1_2] 29 (0, 0))) ∧ Aside0 (wc.heap[gb329]? = some (.cells #[.int .i64 0, .int .i64 0, .int .i64 0] 29 (0, 0))) ∧ Aside0 (Below w.heap.size w wc))
 case first =>
  have H := HC4.out
  clear HC4
  replace H := Option.bind_eq_some_iff.mp H
  obtain ⟨t330, A80, H⟩ := H
  replace H : (if t330 = true then ((spec_ChargeOk.f a1_0 a1_1 a1_2).bind fun t331 => (if t331 = true then ((spec_Stride.f a2).bind fun t332 => (spec_Finish.j0 k a2 (t332 == 0) a0_0 a0_1 a0_2 a1_0 a1_1 a1_2)) else (spec_Finish.j0 k a2 true a0_0 a0_1 a0_2 a1_0 a1_1 a1_2))) else (spec_Finish.j0 k a2 true a0_0 a0_1 a0_2 a1_0 a1_1 a1_2)) = some (r1, r2, r3, r4) := H
  have A8 := Aside0.mk A80
  clear A80
  by_cases c9 : t330 = true
  ·subst c9
   have H1 : ((spec_ChargeOk.f a1_0 a1_1 a1_2).bind fun t331 => (if t331 = true then ((spec_Stride.f a2).bind fun t332 => (spec_Finish.j0 k a2 (t332 == 0) a0_0 a0_1 a0_2 a1_0 a1_1 a1_2)) else (spec_Finish.j0 k a2 true a0_0 a0_1 a0_2 a1_0 a1_1 a1_2))) = some (r1, r2, r3, r4) := by rw [if_pos rfl] at H; exact H
   clear H
   have H := H1
   clear H1
   replace H := Option.bind_eq_some_iff.mp H
   obtain ⟨t331, A100, H⟩ := H
   replace H : (if t331 = true then ((spec_Stride.f a2).bind fun t332 => (spec_Finish.j0 k a2 (t332 == 0) a0_0 a0_1 a0_2 a1_0 a1_1 a1_2)) else (spec_Finish.j0 k a2 true a0_0 a0_1 a0_2 a1_0 a1_1 a1_2)) = some (r1, r2, r3, r4) := H
   have A10 := Aside0.mk A100
   clear A100
   by_cases c11 : t331 = true
   ·subst c11
    have H1 : ((spec_Stride.f a2).bind fun t332 => (spec_Finish.j0 k a2 (t332 == 0) a0_0 a0_1 a0_2 a1_0 a1_1 a1_2)) = some (r1, r2, r3, r4) := by rw [if_pos rfl] at H; exact H
    clear H
    have H := H1
    clear H1
    replace H := Option.bind_eq_some_iff.mp H
    obtain ⟨t332, A120, H⟩ := H
    replace H : (spec_Finish.j0 k a2 (t332 == 0) a0_0 a0_1 a0_2 a1_0 a1_1 a1_2) = some (r1, r2, r3, r4) := H
    have A12 := Aside0.mk A120
    clear A120
    have H' := Aside0.mk H
    clear H; have hnb13 := NB327_328.out; have hnc13 := NB328_327.out; have hnb14 := NB327_329.out; have hnc14 := NB329_327.out; obtain ⟨hcz15_0, hcz15_1, hcz15_2, hfz15_0, hfz15_1, hfz15_2⟩ := bz3_ BK327
    go_wp2_with (first | ((with_reducible refine gc_ 86 rfl ?_); refine gl_ 12 Try.func86 #[.agg #[.int .i64 a0_0, .int .i64 a0_1, .int .i64 a0_2]] ?_; (with_reducible refine (spec_TagOk.calls a0_0 a0_1 a0_2 true _ A8.out).mono ?_); rintro e w16 ⟨rfl, hb⟩; refine ⟨_, rfl, ?_⟩; replace BK327 := bb_ BK327 hb; replace BK328 := bb_ BK328 hb; replace BK329 := bb_ BK329 hb; replace HB := Aside0.mk (below_step (bf_ HB) hb); (try clear hb); (try clear hb2); (try clear hk); (try clear hi); have hnb17 := NB328_329.out; have hnc17 := NB329_328.out; obtain ⟨hcz18_0, hcz18_1, hcz18_2, hfz18_0, hfz18_1, hfz18_2⟩ := bz3_ BK328) | (go_at_call 77; (with_reducible refine (spec_ChargeOk.calls a1_0 a1_1 a1_2 true _ A10.out).mono ?_); rintro e w19 ⟨rfl, hb⟩; replace BK327 := bb_ BK327 hb; replace BK328 := bb_ BK328 hb; replace BK329 := bb_ BK329 hb; replace HB := Aside0.mk (below_step (bf_ HB) hb); (try clear hb); (try clear hb2); (try clear hk); (try clear hi)) | (go_at_call 41; (with_reducible refine (spec_Stride.calls a2 t332 _ A12.out).mono ?_); rintro e w' ⟨rfl, ⟨nd, rfl⟩⟩))
    go_meet
    case rel => exact ⟨_, ((t332 == 0)), (by first | rfl | (simp; done) | (simp [*]; done)), H', ⟨by first | omega | exact Nat.le_refl _⟩, ⟨bk_ BK327⟩, ⟨bk_ BK328⟩, ⟨bk_ BK329⟩, ⟨bf_ HB⟩⟩
   ·replace c11 := Bool.eq_false_iff.mpr c11
    subst c11
    have H1 : (spec_Finish.j0 k a2 true a0_0 a0_1 a0_2 a1_0 a1_1 a1_2) = some (r1, r2, r3, r4) := by rw [if_neg (show ¬ (false = true) by decide)] at H; exact H
    clear H
    have H := H1
    clear H1
    have H' := Aside0.mk H
    clear H; have hnb20 := NB327_328.out; have hnc20 := NB328_327.out; have hnb21 := NB327_329.out; have hnc21 := NB329_327.out; obtain ⟨hcz22_0, hcz22_1, hcz22_2, hfz22_0, hfz22_1, hfz22_2⟩ := bz3_ BK327
    go_wp2_with (first | ((with_reducible refine gc_ 86 rfl ?_); refine gl_ 12 Try.func86 #[.agg #[.int .i64 a0_0, .int .i64 a0_1, .int .i64 a0_2]] ?_; (with_reducible refine (spec_TagOk.calls a0_0 a0_1 a0_2 true _ A8.out).mono ?_); rintro e w23 ⟨rfl, hb⟩; refine ⟨_, rfl, ?_⟩; replace BK327 := bb_ BK327 hb; replace BK328 := bb_ BK328 hb; replace BK329 := bb_ BK329 hb; replace HB := Aside0.mk (below_step (bf_ HB) hb); (try clear hb); (try clear hb2); (try clear hk); (try clear hi); have hnb24 := NB328_329.out; have hnc24 := NB329_328.out; obtain ⟨hcz25_0, hcz25_1, hcz25_2, hfz25_0, hfz25_1, hfz25_2⟩ := bz3_ BK328) | (go_at_call 77; (with_reducible refine (spec_ChargeOk.calls a1_0 a1_1 a1_2 false _ A10.out).mono ?_); rintro e w26 ⟨rfl, hb⟩; replace BK327 := bb_ BK327 hb; replace BK328 := bb_ BK328 hb; replace BK329 := bb_ BK329 hb; replace HB := Aside0.mk (below_step (bf_ HB) hb); (try clear hb); (try clear hb2); (try clear hk); (try clear hi)))
    go_meet
    case rel => exact ⟨_, (true), (by first | rfl | (simp; done) | (simp [*]; done)), H', ⟨by first | omega | exact Nat.le_refl _⟩, ⟨bk_ BK327⟩, ⟨bk_ BK328⟩, ⟨bk_ BK329⟩, ⟨bf_ HB⟩⟩
  ·replace c9 := Bool.eq_false_iff.mpr c9
   subst c9
   have H1 : (spec_Finish.j0 k a2 true a0_0 a0_1 a0_2 a1_0 a1_1 a1_2) = some (r1, r2, r3, r4) := by rw [if_neg (show ¬ (false = true) by decide)] at H; exact H
   clear H
   have H := H1
   clear H1
   have H' := Aside0.mk H
   clear H; have hnb27 := NB327_328.out; have hnc27 := NB328_327.out; have hnb28 := NB327_329.out; have hnc28 := NB329_327.out; obtain ⟨hcz29_0, hcz29_1, hcz29_2, hfz29_0, hfz29_1, hfz29_2⟩ := bz3_ BK327
   go_wp2_with (first | ((with_reducible refine gc_ 86 rfl ?_); refine gl_ 12 Try.func86 #[.agg #[.int .i64 a0_0, .int .i64 a0_1, .int .i64 a0_2]] ?_; (with_reducible refine (spec_TagOk.calls a0_0 a0_1 a0_2 false _ A8.out).mono ?_); rintro e w30 ⟨rfl, hb⟩; refine ⟨_, rfl, ?_⟩; replace BK327 := bb_ BK327 hb; replace BK328 := bb_ BK328 hb; replace BK329 := bb_ BK329 hb; replace HB := Aside0.mk (below_step (bf_ HB) hb); (try clear hb); (try clear hb2); (try clear hk); (try clear hi)))
   go_meet
   case rel => exact ⟨_, (true), (by first | rfl | (simp; done) | (simp [*]; done)), H', ⟨by first | omega | exact Nat.le_refl _⟩, ⟨bk_ BK327⟩, ⟨bk_ BK328⟩, ⟨bk_ BK329⟩, ⟨bf_ HB⟩⟩
 case rest =>
  clear HC4; (try clear c1); (try clear c2); (try clear p2); (try clear c7); (try clear c8); (try clear c9); (try clear c11); (try clear c13); (try clear c14); (try clear c17); (try clear c20); (try clear c21); (try clear c24); (try clear c27); (try clear c28); (try clear hcz15_0 hcz15_1 hcz15_2 hfz15_0 hfz15_1 hfz15_2); (try clear hcz18_0 hcz18_1 hcz18_2 hfz18_0 hfz18_1 hfz18_2); (try clear hcz22_0 hcz22_1 hcz22_2 hfz22_0 hfz22_1 hfz22_2); (try clear hcz25_0 hcz25_1 hcz25_2 hfz25_0 hfz25_1 hfz25_2); (try clear hcz29_0 hcz29_1 hcz29_2 hfz29_0 hfz29_1 hfz29_2)
  obtain ⟨kq, x23_3, rfl, HA, HJ3, BK327, BK328, BK329, HB⟩ := hcut
  cases kq with
  | zero => exact absurd HA.out (by simp [spec_Finish.j0])
  | succ kj3 =>
   have H := HA.out
   clear HA
   simp only [spec_Finish.j0] at H
   by_cases c31 : x23_3 = true
   ·subst c31
    have H1 : (some (0, 0, 0, false)) = some (r1, r2, r3, r4) := by rw [if_pos rfl] at H; exact H
    clear H
    have H := H1
    clear H1
    simp only [Option.some.injEq, Prod.mk.injEq] at H
    obtain ⟨rfl, rfl, rfl, rfl⟩ := H
    have hnb32 := NB329_327.out; have hnc32 := NB327_329.out; have hnb33 := NB329_328.out; have hnc33 := NB328_329.out; obtain ⟨hcz34_0, hcz34_1, hcz34_2, hfz34_0, hfz34_1, hfz34_2⟩ := bz3_ BK329
    go_wp2
    refine bodyPost_ret (results_ct rfl _ _ gb329 29 #[.int .i64 0, .int .i64 0, .int .i64 0] (0, 0) _ rfl (by (with_reducible repeat (first | refine blk_drewN ?_ _ | refine blk_drew ?_ | refine blk_alloc ?_ _)); refine blk_put (cs := #[.int .i64 0, .int .i64 0, .int .i64 0]) ?_ 2 _ rfl; (with_reducible repeat (first | refine blk_drewN ?_ _ | refine blk_drew ?_ | refine blk_alloc ?_ _)); refine blk_put (cs := #[.int .i64 0, .int .i64 0, .int .i64 0]) ?_ 1 _ rfl; (with_reducible repeat (first | refine blk_drewN ?_ _ | refine blk_drew ?_ | refine blk_alloc ?_ _)); refine blk_put (cs := #[.int .i64 0, .int .i64 0, .int .i64 0]) ?_ 0 _ rfl; exact bk_ BK329) Try.underlying29 rfl (by kernel_rfl)) rfl ?_
    exact ⟨by first | rfl | (simp [errW_none, errW_some] <;> rfl) | (simp [*, errW_none, errW_some] <;> rfl), bf_ HB⟩
   ·replace c31 := Bool.eq_false_iff.mpr c31
    subst c31
    have H1 : ((spec_l13List.f a0_0 a0_1 a0_2).bind fun t333 => ((spec_l13List.f a1_0 a1_1 a1_2).bind fun t336 => (spec_Finish.l0 kj3 a2 t333 t336 0))) = some (r1, r2, r3, r4) := by rw [if_neg (show ¬ (false = true) by decide)] at H; exact H
    clear H
    have H := H1
    clear H1
    replace H := Option.bind_eq_some_iff.mp H
    obtain ⟨t333, A350, H⟩ := H
    replace H : ((spec_l13List.f a1_0 a1_1 a1_2).bind fun t336 => (spec_Finish.l0 kj3 a2 t333 t336 0)) = some (r1, r2, r3, r4) := H
    have A35 := Aside0.mk A350
    clear A350
    replace H := Option.bind_eq_some_iff.mp H
    obtain ⟨t336, A360, H⟩ := H
    replace H : (spec_Finish.l0 kj3 a2 t333 t336 0) = some (r1, r2, r3, r4) := H
    have A36 := Aside0.mk A360
    clear A360
    have H' := Aside0.mk H
    clear H; have hnb37 := NB327_328.out; have hnc37 := NB328_327.out; have hnb38 := NB327_329.out; have hnc38 := NB329_327.out; obtain ⟨hcz39_0, hcz39_1, hcz39_2, hfz39_0, hfz39_1, hfz39_2⟩ := bz3_ BK327
    go_wp2_with (first | ((with_reducible refine gc_ 108 rfl ?_); refine gl_ 26 Try.func108 #[.agg #[.int .i64 a0_0, .int .i64 a0_1, .int .i64 a0_2]] ?_; (with_reducible refine (spec_l13List.calls a0_0 a0_1 a0_2 t333 _ A35.out).mono ?_); rintro e w40 ⟨v334, rfl, ho0, hb⟩; refine ⟨_, rfl, ?_⟩; have HO335 := Aside0.mk (Kd.R_lower ho0 (below_size (bf_ HB))); replace BK327 := bb_ BK327 hb; replace BK328 := bb_ BK328 hb; replace BK329 := bb_ BK329 hb; replace HB := Aside0.mk (below_step (bf_ HB) hb); (try clear hb); (try clear hb2); (try clear hk); (try clear hi); (try clear ho0); have hnb41 := NB328_329.out; have hnc41 := NB329_328.out; obtain ⟨hcz42_0, hcz42_1, hcz42_2, hfz42_0, hfz42_1, hfz42_2⟩ := bz3_ BK328) | ((with_reducible refine gc_ 108 rfl ?_); refine gl_ 28 Try.func108 #[.agg #[.int .i64 a1_0, .int .i64 a1_1, .int .i64 a1_2]] ?_; (with_reducible refine (spec_l13List.calls a1_0 a1_1 a1_2 t336 _ A36.out).mono ?_); rintro e w43 ⟨v337, rfl, ho0, hb⟩; refine ⟨_, rfl, ?_⟩; have HO338 := Aside0.mk (Kd.R_lower (Kd.R_new' ho0 (Kd.R_lt (kr_ HO335))) (below_size (bf_ HB))); replace HO335 := Aside0.mk (Kd.R_elder' (kr_ HO335) (Kd.R_base ho0) hb); replace BK327 := bb_ BK327 hb; replace BK328 := bb_ BK328 hb; replace BK329 := bb_ BK329 hb; replace HB := Aside0.mk (below_step (bf_ HB) hb); (try clear hb); (try clear hb2); (try clear hk); (try clear hi); (try clear ho0)))
    go_loopg [10] kj3 (fun kq v10 w' => ∃ (x8_2 : List Int) (x10_2 : Int), v10 = .int .i64 x10_2 ∧ Aside0 (spec_Finish.l0 kq a2 x8_2 t336 x10_2 = some (r1, r2, r3, r4)) ∧ Aside0 (kq ≤ kj3) ∧ Aside0 (Kd.R (Kd.int .i64) 3 w' w.heap.size (fun k_ => some k_ ≠ (v337 : Value).ownBlock) v334 x8_2) ∧ Aside0 (Kd.R (Kd.int .i64) 3 w' w.heap.size (fun k_ => some k_ ≠ (v334 : Value).ownBlock) v337 t336) ∧ Aside0 (w'.heap[gb327]? = some (.cells #[.int .i64 a0_0, .int .i64 a0_1, .int .i64 a0_2] 29 (0, 0))) ∧ Aside0 (w'.heap[gb328]? = some (.cells #[.int .i64 a1_0, .int .i64 a1_1, .int .i64 a1_2] 29 (0, 0))) ∧ Aside0 (w'.heap[gb329]? = some (.cells #[.int .i64 0, .int .i64 0, .int .i64 0] 29 (0, 0))) ∧ Aside0 (Below w.heap.size w w'))
    case atStart => exact ⟨(t333), (0), (by first | rfl | (simp; done) | (simp [*]; done)), H', ⟨Nat.le_refl _⟩, ⟨by (with_reducible repeat (first | apply Kd.R_alloc | apply Kd.R_drewN | apply Kd.R_drew)); exact Kd.R_mono HO335.out (fun _ hk => by first | exact hk.2 | grind)⟩, ⟨by (with_reducible repeat (first | apply Kd.R_alloc | apply Kd.R_drewN | apply Kd.R_drew)); exact Kd.R_mono HO338.out (fun _ hk => by first | exact hk.2 | grind)⟩, ⟨bk_ BK327⟩, ⟨bk_ BK328⟩, ⟨bk_ BK329⟩, ⟨bf_ HB⟩⟩
    case round =>
     clear H'
     (try clear c1); (try clear c2); (try clear p2 p2); (try clear c3); (try clear c4); (try clear c7); (try clear c8); (try clear c9); (try clear c10); (try clear c11); (try clear c13); (try clear c14); (try clear c17); (try clear c20); (try clear c21); (try clear c24); (try clear c27); (try clear c28); (try clear c31); (try clear c32); (try clear c33); (try clear c37); (try clear c38); (try clear c41); (try clear hcz15_0 hcz15_1 hcz15_2 hfz15_0 hfz15_1 hfz15_2); (try clear hcz18_0 hcz18_1 hcz18_2 hfz18_0 hfz18_1 hfz18_2); (try clear hcz22_0 hcz22_1 hcz22_2 hfz22_0 hfz22_1 hfz22_2); (try clear hcz25_0 hcz25_1 hcz25_2 hfz25_0 hfz25_1 hfz25_2); (try clear hcz29_0 hcz29_1 hcz29_2 hfz29_0 hfz29_1 hfz29_2); (try clear hcz34_0 hcz34_1 hcz34_2 hfz34_0 hfz34_1 hfz34_2); (try clear hcz39_0 hcz39_1 hcz39_2 hfz39_0 hfz39_1 hfz39_2); (try clear hcz42_0 hcz42_1 hcz42_2 hfz42_0 hfz42_1 hfz42_2)
     obtain ⟨x8_2, x10_2, rfl, HA, HK2, HO_8, HO_9, BK327, BK328, BK329, HB⟩ := hrel
     cases gk with
     | zero => exact absurd HA.out (by simp [spec_Finish.l0])
     | succ k2 =>
      have H := HA.out
      clear HA
      simp only [spec_Finish.l0] at H
      by_cases c44 : x10_2 < 3
      ·rw [if_pos c44] at H
       have c44b0 : decide (x10_2 < 3) = true := decide_eq_true c44
       clear c44
       by_cases c45 : 0 ≤ x10_2
       ·rw [if_pos c45] at H
        have c45b0 : decide (0 ≤ x10_2) = true := decide_eq_true c45
        clear c45
        by_cases c46 : x10_2 < (x8_2.length : Int)
        ·rw [if_pos c46] at H
         have c46b0 : decide (x10_2 < (x8_2.length : Int)) = true := decide_eq_true c46
         clear c46
         by_cases c47 : x10_2 < (t336.length : Int)
         ·rw [if_pos c47] at H
          have c47b0 : decide (x10_2 < (t336.length : Int)) = true := decide_eq_true c47
          clear c47
          replace H := Option.bind_eq_some_iff.mp H
          obtain ⟨t341, A480, H⟩ := H
          replace H : (spec_Finish.l0 k2 a2 (x8_2.set (x10_2 : Int).toNat (wrap64 ((rd x8_2 x10_2) + (wrap64 ((rd t336 x10_2) * t341))))) t336 (wrap64 (x10_2 + 1))) = some (r1, r2, r3, r4) := H
          have A48 := Aside0.mk A480
          clear A480
          obtain ⟨y342, hy342⟩ : ∃ y_ : List Int, y_ = (x8_2.set (x10_2 : Int).toNat (wrap64 ((rd x8_2 x10_2) + (wrap64 ((rd t336 x10_2) * t341))))) := ⟨_, rfl⟩
          replace H : (spec_Finish.l0 k2 a2 y342 t336 (wrap64 (x10_2 + 1))) = some (r1, r2, r3, r4) := by first | (rw [hy342]; with_reducible exact H) | (have H2_ := (Option.bind_some _ _).symm.trans H; rw [hy342]; with_reducible exact H2_) | (have H2_ := (Option.bind_some _ _).symm.trans H; with_reducible exact H2_) | with_reducible exact H | (rw [hy342]; exact H) | exact H
          have Ny342 := Aside0.mk hy342
          clear hy342
          have H' := Aside0.mk H
          clear H
          try go_wp2
          replace HO_8 := Aside0.mk (Kd.R_drew HO_8.out); replace HO_9 := Aside0.mk (Kd.R_drew HO_9.out); replace BK327 := Aside0.mk (blk_drew BK327.out); replace BK328 := Aside0.mk (blk_drew BK328.out); replace BK329 := Aside0.mk (blk_drew BK329.out); replace HB := Aside0.mk (below_drew1 HB.out)
          obtain ⟨Ao51, co51, eo51⟩ := Kd.R_slice HO_8.out
          (first | subst eo51 | (injection eo51 with f1_ f2_ f3_; have f4_ := f1_.symm; have f5_ := f3_.symm; clear f1_ f2_ f3_; subst f4_; subst f5_))
          have p339 : 0 ≤ (x10_2 : Int) := od_
          have q339 : x10_2 < (x8_2.length : Int) := od_
          obtain ⟨ad339, e339, hx339_0⟩ := Kd.at_int (Kd.R_reads' HO_8.out).2.2 x10_2 p339 q339
          cases e339
          replace p339 := eq_true p339
          replace q339 := eq_true q339
          obtain ⟨Ao52, co52, eo52⟩ := Kd.R_slice HO_9.out
          (first | subst eo52 | (injection eo52 with f1_ f2_ f3_; have f4_ := f1_.symm; have f5_ := f3_.symm; clear f1_ f2_ f3_; subst f4_; subst f5_))
          have p340 : 0 ≤ (x10_2 : Int) := od_
          have q340 : x10_2 < (t336.length : Int) := od_
          obtain ⟨ad340, e340, hx340_0⟩ := Kd.at_int (Kd.R_reads' HO_9.out).2.2 x10_2 p340 q340
          cases e340
          replace p340 := eq_true p340
          replace q340 := eq_true q340
          refine start_ (n := 16) (S := fun w' => w'.cell? (ad339.add (x10_2).toNat) = some (.int .i64 (rd x8_2 x10_2)) ∧ w'.cell? (ad340.add (x10_2).toNat) = some (.int .i64 (rd t336 x10_2))) (ds := [15]) (bs 16 0) (by kernel_rfl) rfl rfl ⟨hx339_0, hx340_0⟩ (fun hHeld => ?_); refine with_tabW spec_Finish.tab8 spec_Finish.bits8 (fun HT_ HW_ => ?_)
          generalize wr.drew = w50 at HO_8 HO_9 BK327 BK328 BK329 HB hx339_0 hx340_0 hHeld ⊢
          refine ps_ 0 33 (bs 16 1) HT_ ?_
          refine ps_ 1 34 (bs 16 2) HT_ ?_
          refine ps_ 2 35 (bs 16 3) HT_ ?_
          refine ps_ 3 36 (bs 16 4) HT_ ?_
          refine ps_ 4 37 (bs 16 5) HT_ ?_
          refine ps_ 6 39 (bm 16 95) HT_ ?_
          refine ps_ 7 40 (bm 16 223) HT_ ?_
          refine ps_ 8 41 (bm 16 479) HT_ ?_
          refine ps_ 10 43 (bm 16 1503) HT_ ?_
          refine tk_ 5 38 (bm 16 1535) HT_ HW_ hHeld ?_
          refine tk_ 9 42 (bs 16 11) HT_ HW_ hHeld ?_
          refine on_ 11 (some 44) (bs 16 12) HT_ (fun K hK => ?_)
          refine gs_ Try.func41 #[.int .i64 a2] ?_
          with_reducible refine (spec_Stride.calls a2 t341 _ A48.out).mono ?_
          rintro e w' ⟨rfl, ⟨nd, rfl⟩⟩
          refine ⟨_, rfl, ?_⟩
          have p49 : 0 ≤ (x10_2 : Int) := od_
          have q49 : (x10_2 : Int) < ((x8_2.length : Int) : Int) := od_
          obtain ⟨go49, co49, eo49, gb49, gl49, cl49, HG49⟩ := Kd.R_form HO_8.out (by omega)
          (first | cases eo49 | (injection eo49 with ea_ en_ ec_; (first | subst ea_ | (injection ea_ with ea_; subst ea_)); subst ec_; clear en_))
          have GB49 := Aside0.mk gb49
          have GG49 := Aside0.mk HG49
          clear gb49 gl49 HG49
          (first | simp only [add_plain] at hx339_0 | skip)
          obtain ⟨hx49_0, hf49_0⟩ := Kd.R_celln 0 HO_8.out (x10_2 : Int) p49 q49
          replace p49 := eq_true p49
          replace q49 := eq_true q49
          have HP53 := Kd.R_putn HO_8.out (x10_2 : Int) (wrap64 ((rd x8_2 x10_2) + (wrap64 ((rd t336 x10_2) * t341))))
          rw [← Ny342.out] at HP53
          have HQ53 := Aside0.mk HP53
          clear HP53
          refine hK.out _ _ ⟨hHeld.1, hHeld.2⟩ (fun hHeld => ?_)
          clear hK K
          refine norm_ (a' := ?_) ?_ ?_
          rotate_left
          ·show Act.put _ (some 44) _ = _
           simp only [Act.put, ls0_, ls1_, ls2_, i64_w, i32_w]
           rfl
          refine ps_ 12 45 (bs 16 13) HT_ ?_
          refine ps_ 13 46 (bs 16 14) HT_ ?_
          refine ps_ 14 47 (bs 16 15) HT_ ?_
          refine last_ (i := 15) (N := none) (bs 16 16) rfl rfl (one_of HT_.out (by kernel_rfl)) (by decide) (fun K hK => ?_)
          refine skip_ (w1 := ?_) (by rfl) rfl ?_ ?_
          rotate_left
          ·go_simp
           rfl
          refine hK.out _ _ ?_
          clear hK K
          refine done_ (done_of HT_.out (by kernel_rfl)) ?_
          try go_wp2
          go_roundg k2
          case measure => have := HJ3.out; have := HK2.out; omega
          case rel => exact ⟨(y342), (wrap64 (x10_2 + 1)), (by first | rfl | (simp; done) | (simp [*]; done)), H', ⟨by have := HJ3.out; have := HK2.out; omega⟩, ⟨kr_ HQ53⟩, ⟨by (with_reducible repeat (first | apply Kd.R_alloc | apply Kd.R_drewN | apply Kd.R_drew)); exact Kd.R_mono (Kd.R_far (p := ⟨go49, (x10_2 : Int).toNat, none⟩) (Kd.R_mono HO_9.out (fun k_ hk => by first | exact (⟨hk, fun e_ => hk (by rw [e_]; rfl)⟩ : _ ∧ k_ ≠ go49) | grind)) (fun _ hk => by first | exact hk.2 | grind) (.int .i64 (wrap64 ((rd x8_2 x10_2) + (wrap64 ((rd t336 x10_2) * t341)))))) (fun _ hk => by first | exact hk.1 | grind)⟩, ⟨by (with_reducible repeat (first | refine blk_drewN ?_ _ | refine blk_drew ?_ | refine blk_alloc ?_ _)); refine blk_far ?_ (by have h_ := Kd.R_ne HO_8.out BK327.out (by decide); intro e_; exact h_ (by rw [e_]; rfl)) _; exact bk_ BK327⟩, ⟨by (with_reducible repeat (first | refine blk_drewN ?_ _ | refine blk_drew ?_ | refine blk_alloc ?_ _)); refine blk_far ?_ (by have h_ := Kd.R_ne HO_8.out BK328.out (by decide); intro e_; exact h_ (by rw [e_]; rfl)) _; exact bk_ BK328⟩, ⟨by (with_reducible repeat (first | refine blk_drewN ?_ _ | refine blk_drew ?_ | refine blk_alloc ?_ _)); refine blk_far ?_ (by have h_ := Kd.R_ne HO_8.out BK329.out (by decide); intro e_; exact h_ (by rw [e_]; rfl)) _; exact bk_ BK329⟩, ⟨by repeat (first | (with_reducible first | exact HB.out | apply below_alloc | apply pw_below_drewN | apply below_drew1 | refine below_set ?_ GB49.out | refine below_set ?_ GE327.out | refine below_set ?_ GE328.out | refine below_set ?_ GE329.out) | exact HB.out)⟩⟩
         ·rw [if_neg c47] at H
          exact absurd H (by simp)
        ·rw [if_neg c46] at H
         exact absurd H (by simp)
       ·rw [if_neg c45] at H
        exact absurd H (by simp)
      ·rw [if_neg c44] at H
       have c44b0 : decide (x10_2 < 3) = false := decide_eq_false c44
       clear c44
       replace H := Option.bind_eq_some_iff.mp H
       obtain ⟨⟨t343, t344, t345⟩, A540, H⟩ := H
       replace H : ((spec_TagOk.f t343 t344 t345).bind fun t346 => (if t346 = true then ((spec_l13Of.f x8_2).bind fun bt347 => (some (bt347.1, bt347.2.1, bt347.2.2, true))) else (some (0, 0, 0, false)))) = some (r1, r2, r3, r4) := H
       have A54 := Aside0.mk A540
       clear A540
       replace H := Option.bind_eq_some_iff.mp H
       obtain ⟨t346, A550, H⟩ := H
       replace H : (if t346 = true then ((spec_l13Of.f x8_2).bind fun bt347 => (some (bt347.1, bt347.2.1, bt347.2.2, true))) else (some (0, 0, 0, false))) = some (r1, r2, r3, r4) := H
       have A55 := Aside0.mk A550
       clear A550
       by_cases c56 : t346 = true
       ·subst c56
        have H1 : ((spec_l13Of.f x8_2).bind fun bt347 => (some (bt347.1, bt347.2.1, bt347.2.2, true))) = some (r1, r2, r3, r4) := by rw [if_pos rfl] at H; exact H
        clear H
        have H := H1
        clear H1
        replace H := Option.bind_eq_some_iff.mp H
        obtain ⟨⟨t347, t348, t349⟩, A570, H⟩ := H
        replace H : (some (t347, t348, t349, true)) = some (r1, r2, r3, r4) := H
        have A57 := Aside0.mk A570
        clear A570
        simp only [Option.some.injEq, Prod.mk.injEq] at H
        obtain ⟨rfl, rfl, rfl, rfl⟩ := H
        obtain ⟨Ao58, co58, eo58⟩ := Kd.R_slice HO_8.out
        subst eo58
        go_wp2_with (first | ((with_reducible refine gc_ 109 rfl ?_); refine gl_ 49 Try.func109 #[.slice Ao58 x8_2.length co58] ?_; (with_reducible refine (spec_l13Of.calls _ _ x8_2 t343 t344 t345 _ ?side1 ?side2 A54.out).mono ?_); (case side1 => exact cr_ HO_8); (case side2 => exact (Kd.R_reads' HO_8.out).2.1); rintro e w59 ⟨rfl, hb⟩; refine ⟨_, rfl, ?_⟩; replace HO_8 := Aside0.mk (Kd.R_below (kr_ HO_8) hb); replace HO_9 := Aside0.mk (Kd.R_below (kr_ HO_9) hb); replace BK327 := bb_ BK327 hb; replace BK328 := bb_ BK328 hb; replace BK329 := bb_ BK329 hb; replace HB := Aside0.mk (below_step (bf_ HB) hb); (try clear hb); (try clear hb2); (try clear hk); (try clear hi)) | ((with_reducible refine gc_ 86 rfl ?_); refine gl_ 50 Try.func86 #[.agg #[.int .i64 t343, .int .i64 t344, .int .i64 t345]] ?_; (with_reducible refine (spec_TagOk.calls t343 t344 t345 true _ A55.out).mono ?_); rintro e w60 ⟨rfl, hb⟩; refine ⟨_, rfl, ?_⟩; replace HO_8 := Aside0.mk (Kd.R_below (kr_ HO_8) hb); replace HO_9 := Aside0.mk (Kd.R_below (kr_ HO_9) hb); replace BK327 := bb_ BK327 hb; replace BK328 := bb_ BK328 hb; replace BK329 := bb_ BK329 hb; replace HB := Aside0.mk (below_step (bf_ HB) hb); (try clear hb); (try clear hb2); (try clear hk); (try clear hi)) | ((with_reducible refine gc_ 109 rfl ?_); refine gl_ 54 Try.func109 #[.slice Ao58 x8_2.length co58] ?_; (with_reducible refine (spec_l13Of.calls _ _ x8_2 t347 t348 t349 _ ?side1 ?side2 A57.out).mono ?_); (case side1 => exact cr_ HO_8); (case side2 => exact (Kd.R_reads' HO_8.out).2.1); rintro e w61 ⟨rfl, hb⟩; refine ⟨_, rfl, ?_⟩; replace HO_8 := Aside0.mk (Kd.R_below (kr_ HO_8) hb); replace HO_9 := Aside0.mk (Kd.R_below (kr_ HO_9) hb); replace BK327 := bb_ BK327 hb; replace BK328 := bb_ BK328 hb; replace BK329 := bb_ BK329 hb; replace HB := Aside0.mk (below_step (bf_ HB) hb); (try clear hb); (try clear hb2); (try clear hk); (try clear hi); have hnb62 := NB329_327.out; have hnc62 := NB327_329.out; have hnb63 := NB329_328.out; have hnc63 := NB328_329.out; obtain ⟨hcz64_0, hcz64_1, hcz64_2, hfz64_0, hfz64_1, hfz64_2⟩ := bz3_ BK329))
        refine bodyPost_ret (results_ct rfl _ _ gb329 29 #[.int .i64 t347, .int .i64 t348, .int .i64 t349] (0, 0) _ rfl (by (with_reducible repeat (first | refine blk_drewN ?_ _ | refine blk_drew ?_ | refine blk_alloc ?_ _)); refine blk_put (cs := #[.int .i64 t347, .int .i64 t348, .int .i64 0]) ?_ 2 _ rfl; (with_reducible repeat (first | refine blk_drewN ?_ _ | refine blk_drew ?_ | refine blk_alloc ?_ _)); refine blk_put (cs := #[.int .i64 t347, .int .i64 0, .int .i64 0]) ?_ 1 _ rfl; (with_reducible repeat (first | refine blk_drewN ?_ _ | refine blk_drew ?_ | refine blk_alloc ?_ _)); refine blk_put (cs := #[.int .i64 0, .int .i64 0, .int .i64 0]) ?_ 0 _ rfl; exact bk_ BK329) Try.underlying29 rfl (by kernel_rfl)) rfl ?_
        exact ⟨by first | rfl | (simp [errW_none, errW_some] <;> rfl) | (simp [*, errW_none, errW_some] <;> rfl), bf_ HB⟩
       ·replace c56 := Bool.eq_false_iff.mpr c56
        subst c56
        have H1 : (some (0, 0, 0, false)) = some (r1, r2, r3, r4) := by rw [if_neg (show ¬ (false = true) by decide)] at H; exact H
        clear H
        have H := H1
        clear H1
        simp only [Option.some.injEq, Prod.mk.injEq] at H
        obtain ⟨rfl, rfl, rfl, rfl⟩ := H
        obtain ⟨Ao65, co65, eo65⟩ := Kd.R_slice HO_8.out
        subst eo65
        go_wp2_with (first | ((with_reducible refine gc_ 109 rfl ?_); refine gl_ 49 Try.func109 #[.slice Ao65 x8_2.length co65] ?_; (with_reducible refine (spec_l13Of.calls _ _ x8_2 t343 t344 t345 _ ?side1 ?side2 A54.out).mono ?_); (case side1 => exact cr_ HO_8); (case side2 => exact (Kd.R_reads' HO_8.out).2.1); rintro e w66 ⟨rfl, hb⟩; refine ⟨_, rfl, ?_⟩; replace HO_8 := Aside0.mk (Kd.R_below (kr_ HO_8) hb); replace HO_9 := Aside0.mk (Kd.R_below (kr_ HO_9) hb); replace BK327 := bb_ BK327 hb; replace BK328 := bb_ BK328 hb; replace BK329 := bb_ BK329 hb; replace HB := Aside0.mk (below_step (bf_ HB) hb); (try clear hb); (try clear hb2); (try clear hk); (try clear hi)) | ((with_reducible refine gc_ 86 rfl ?_); refine gl_ 50 Try.func86 #[.agg #[.int .i64 t343, .int .i64 t344, .int .i64 t345]] ?_; (with_reducible refine (spec_TagOk.calls t343 t344 t345 false _ A55.out).mono ?_); rintro e w67 ⟨rfl, hb⟩; refine ⟨_, rfl, ?_⟩; replace HO_8 := Aside0.mk (Kd.R_below (kr_ HO_8) hb); replace HO_9 := Aside0.mk (Kd.R_below (kr_ HO_9) hb); replace BK327 := bb_ BK327 hb; replace BK328 := bb_ BK328 hb; replace BK329 := bb_ BK329 hb; replace HB := Aside0.mk (below_step (bf_ HB) hb); (try clear hb); (try clear hb2); (try clear hk); (try clear hi); have hnb68 := NB329_327.out; have hnc68 := NB327_329.out; have hnb69 := NB329_328.out; have hnc69 := NB328_329.out; obtain ⟨hcz70_0, hcz70_1, hcz70_2, hfz70_0, hfz70_1, hfz70_2⟩ := bz3_ BK329))
        refine bodyPost_ret (results_ct rfl _ _ gb329 29 #[.int .i64 0, .int .i64 0, .int .i64 0] (0, 0) _ rfl (by (with_reducible repeat (first | refine blk_drewN ?_ _ | refine blk_drew ?_ | refine blk_alloc ?_ _)); refine blk_put (cs := #[.int .i64 0, .int .i64 0, .int .i64 0]) ?_ 2 _ rfl; (with_reducible repeat (first | refine blk_drewN ?_ _ | refine blk_drew ?_ | refine blk_alloc ?_ _)); refine blk_put (cs := #[.int .i64 0, .int .i64 0, .int .i64 0]) ?_ 1 _ rfl; (with_reducible repeat (first | refine blk_drewN ?_ _ | refine blk_drew ?_ | refine blk_alloc ?_ _)); refine blk_put (cs := #[.int .i64 0, .int .i64 0, .int .i64 0]) ?_ 0 _ rfl; exact bk_ BK329) Try.underlying29 rfl (by kernel_rfl)) rfl ?_
        exact ⟨by first | rfl | (simp [errW_none, errW_some] <;> rfl) | (simp [*, errW_none, errW_some] <;> rfl), bf_ HB⟩

/-! ### spec_Dovetail: function 79 -/
mutual
def spec_Dovetail.j0 : Nat → Int → Bool → Int → Int → Int → Option (Int × Int × Int)
  | 0, _, _, _, _, _ => none
  | k + 1, x1, x14, x351000, x351001, x351002 => if x14 = true then (some (0, 0, 0)) else ((spec_l13List.f x351000 x351001 x351002).bind fun t354 => (spec_Dovetail.l0 k x1 t354 0 x351000 x351001 x351002))
def spec_Dovetail.l0 : Nat → Int → List Int → Int → Int → Int → Int → Option (Int × Int × Int)
  | 0, _, _, _, _, _, _ => none
  | k + 1, x1, x5, x6, x351000, x351001, x351002 => if x6 < 3 then (if 0 ≤ x6 then (if x6 < (x5.length : Int) then ((spec_VecTop.f x351000 x351001 x351002).bind fun t358 => (spec_Dovetail.l0 k x1 (x5.set (x6 : Int).toNat (mx (rd x5 x6) (wrap64 (t358 - x1)))) (wrap64 (x6 + 1)) x351000 x351001 x351002)) else (none)) else (none)) else ((spec_l13Of.f x5).bind fun bt360 => (some (bt360.1, bt360.2.1, bt360.2.2)))
end
def spec_Dovetail.f (k : Nat) (a0_0 : Int) (a0_1 : Int) (a0_2 : Int) (a1 : Int) : Option (Int × Int × Int) := (spec_TagOk.f a0_0 a0_1 a0_2).bind fun t352 => (if t352 = true then ((spec_l13Delta.f a1).bind fun t353 => (spec_Dovetail.j0 k a1 (!t353) a0_0 a0_1 a0_2)) else (spec_Dovetail.j0 k a1 true a0_0 a0_1 a0_2))
theorem spec_Dovetail.mono_l : ∀ k, (∀ y0 y1 y2 y3 y4, LeO (spec_Dovetail.j0 k y0 y1 y2 y3 y4) (spec_Dovetail.j0 (k + 1) y0 y1 y2 y3 y4)) ∧ (∀ y0 y1 y2 y3 y4 y5, LeO (spec_Dovetail.l0 k y0 y1 y2 y3 y4 y5) (spec_Dovetail.l0 (k + 1) y0 y1 y2 y3 y4 y5))
 | 0 => ⟨fun _ _ _ _ _ r h => by simp [spec_Dovetail.j0] at h, fun _ _ _ _ _ _ r h => by simp [spec_Dovetail.l0] at h⟩
 | k + 1 => by
  obtain ⟨ih0, ih1⟩ := spec_Dovetail.mono_l k
  refine ⟨?_, ?_⟩
  ·intro y0 y1 y2 y3 y4
   unfold spec_Dovetail.j0
   repeat' first
   | (with_reducible exact ih0 _ _ _ _ _)
   | (with_reducible exact ih1 _ _ _ _ _ _)
   | (with_reducible exact LeO.refl _)
   | (with_reducible exact LeO.none _)
   | (with_reducible refine LeO.ite ?_ ?_)
   | (with_reducible refine LeO.bind ?_ (fun _ => ?_))
   | exact ih0 _ _ _ _ _
   | exact ih1 _ _ _ _ _ _
   | exact LeO.none _
   | refine LeO.ite ?_ ?_
   | refine LeO.bind ?_ (fun _ => ?_)
  ·intro y0 y1 y2 y3 y4 y5
   unfold spec_Dovetail.l0
   repeat' first
   | (with_reducible exact ih0 _ _ _ _ _)
   | (with_reducible exact ih1 _ _ _ _ _ _)
   | (with_reducible exact LeO.refl _)
   | (with_reducible exact LeO.none _)
   | (with_reducible refine LeO.ite ?_ ?_)
   | (with_reducible refine LeO.bind ?_ (fun _ => ?_))
   | exact ih0 _ _ _ _ _
   | exact ih1 _ _ _ _ _ _
   | exact LeO.none _
   | refine LeO.ite ?_ ?_
   | refine LeO.bind ?_ (fun _ => ?_)
theorem spec_Dovetail.mono : ∀ a0 a1 a2 a3 k, LeO (spec_Dovetail.f k a0 a1 a2 a3) (spec_Dovetail.f (k + 1) a0 a1 a2 a3) := by
 intro a0 a1 a2 a3 k
 obtain ⟨ih0, ih1⟩ := spec_Dovetail.mono_l k
 unfold spec_Dovetail.f
 repeat' first
   | (with_reducible exact ih0 _ _ _ _ _)
   | (with_reducible exact ih1 _ _ _ _ _ _)
   | (with_reducible exact LeO.refl _)
   | (with_reducible exact LeO.none _)
   | (with_reducible refine LeO.ite ?_ ?_)
   | (with_reducible refine LeO.bind ?_ (fun _ => ?_))
   | exact ih0 _ _ _ _ _
   | exact ih1 _ _ _ _ _ _
   | exact LeO.none _
   | refine LeO.ite ?_ ?_
   | refine LeO.bind ?_ (fun _ => ?_)
def spec_Dovetail.T7 : Bool × List (List Nat × List Nat) := (true, [([], []), ([], []), ([], []), ([], []), ([2, 3], [2, 3]), ([4], [4]), ([], []), ([6], [6]), ([], []), ([7, 8], [7, 8]), ([5, 9], [5, 9]), ([0, 1, 0, 1, 2, 3, 4, 5, 6, 7, 8, 9, 10], [0, 1]), ([11, 10, 7, 0, 1, 2, 3, 4, 5, 6, 7, 8, 9, 10], [10, 11])])
def spec_Dovetail.B7 : List Nat := [0, 0, 0, 0, 12, 28, 0, 64, 0, 448, 1020, 2047, 4095]
theorem spec_Dovetail.tab7 : rtab .any (opsOf Try.f79 7) = spec_Dovetail.T7 := by kernel_rfl
theorem spec_Dovetail.bits7 : waitsOk spec_Dovetail.T7.2 spec_Dovetail.B7 = true := by kernel_rfl
set_option maxHeartbeats 8000000 in
set_option maxRecDepth 100000 in
theorem spec_Dovetail.calls (k : Nat) (a0_0 : Int) (a0_1 : Int) (a0_2 : Int) (a1 : Int) (r1 : Int) (r2 : Int) (r3 : Int) (w : World) (h : spec_Dovetail.f k a0_0 a0_1 a0_2 a1 = some (r1, r2, r3)) :
  Calls Try.prog 79 #[.agg #[.int .i64 a0_0, .int .i64 a0_1, .int .i64 a0_2], .int .i64 a1] w fun e w' => e = .returned (.agg #[.int .i64 r1, .int .i64 r2, .int .i64 r3]) ∧ Below w.heap.size w w' := by
 have hu29 := Try.underlying29; have HB := Aside0.mk (Below.refl w.heap.size w)
 have H : ((spec_TagOk.f a0_0 a0_1 a0_2).bind fun t352 => (if t352 = true then ((spec_l13Delta.f a1).bind fun t353 => (spec_Dovetail.j0 k a1 (!t353) a0_0 a0_1 a0_2)) else (spec_Dovetail.j0 k a1 true a0_0 a0_1 a0_2))) = some (r1, r2, r3) := h
 clear h
 have HC3 := Aside0.mk H
 clear H
 go_enter Try.func79, Try.ntmps79
 go_upto_region 1 with (first | ((with_reducible refine gd_ 2 rfl ?_); refine bv_ 2 #[.int .i64 a0_0, .int .i64 a0_1, .int .i64 a0_2] 29 ?_; intro gb350 hg w4 hbox hb; have BK350 := Aside0.mk (hbox); have GW350 := gw_ HB hg; have GE350 := gw_ HB hg; replace HB := Aside0.mk (below_step (be_ HB) hb); clear hb hbox hg) | ((with_reducible refine gd_ 4 rfl ?_); refine bv_ 4 #[.int .i64 0, .int .i64 0, .int .i64 0] 29 ?_; intro gb351 hg w5 hbox hb; have BK351 := Aside0.mk (hbox); have GW351 := gw_ HB hg; have GE351 := gw_ HB hg; replace HB := Aside0.mk (below_step (bf_ HB) hb); have NB350_351 := nl_ BK350 hg; have NB351_350 := ng_ BK350 hg; replace BK350 := bb_ BK350 hb; clear hb hbox hg))
 (try simp only [Act.put, ls0_, ls1_, ls2_])
 go_cut [14] (fun v14 wc => ∃ (kq : Nat) (x14_2 : Bool), v14 = .bool x14_2 ∧ Aside0 (spec_Dovetail.j0 kq a1 x14_2 a0_0 a0_1 a0_2 = some (r1, r2, r3)) ∧ Aside0 (kq ≤ k) ∧ Aside0 (wc.heap[gb350]? = some (.cells #[.int .i64 a0_0, .int .i64 a0_1, .int .i64 a0_2] 29 (0, 0))) ∧ Aside0 (wc.heap[gb351]? = some (.cells #[.int .i64 0, .int .i64 0, .int .i64 0] 29 (0, 0))) ∧ Aside0 (Below w.heap.size w wc))
 case first =>
  have H := HC3.out
  clear HC3
  replace H := Option.bind_eq_some_iff.mp H
  obtain ⟨t352, A60, H⟩ := H
  replace H : (if t352 = true then ((spec_l13Delta.f a1).bind fun t353 => (spec_Dovetail.j0 k a1 (!t353) a0_0 a0_1 a0_2)) else (spec_Dovetail.j0 k a1 true a0_0 a0_1 a0_2)) = some (r1, r2, r3) := H
  have A6 := Aside0.mk A60
  clear A60
  by_cases c7 : t352 = true
  ·subst c7
   have H1 : ((spec_l13Delta.f a1).bind fun t353 => (spec_Dovetail.j0 k a1 (!t353) a0_0 a0_1 a0_2)) = some (r1, r2, r3) := by rw [if_pos rfl] at H; exact H
   clear H
   have H := H1
   clear H1
   replace H := Option.bind_eq_some_iff.mp H
   obtain ⟨t353, A80, H⟩ := H
   replace H : (spec_Dovetail.j0 k a1 (!t353) a0_0 a0_1 a0_2) = some (r1, r2, r3) := H
   have A8 := Aside0.mk A80
   clear A80
   have H' := Aside0.mk H
   clear H; have hnb9 := NB350_351.out; have hnc9 := NB351_350.out; obtain ⟨hcz10_0, hcz10_1, hcz10_2, hfz10_0, hfz10_1, hfz10_2⟩ := bz3_ BK350
   go_wp2_with (first | ((with_reducible refine gc_ 86 rfl ?_); refine gl_ 8 Try.func86 #[.agg #[.int .i64 a0_0, .int .i64 a0_1, .int .i64 a0_2]] ?_; (with_reducible refine (spec_TagOk.calls a0_0 a0_1 a0_2 true _ A6.out).mono ?_); rintro e w11 ⟨rfl, hb⟩; refine ⟨_, rfl, ?_⟩; replace BK350 := bb_ BK350 hb; replace BK351 := bb_ BK351 hb; replace HB := Aside0.mk (below_step (bf_ HB) hb); (try clear hb); (try clear hb2); (try clear hk); (try clear hi)) | (go_at_call 87; (with_reducible refine (spec_l13Delta.calls a1 t353 _ A8.out).mono ?_); rintro e w' ⟨rfl, ⟨nd, rfl⟩⟩))
   go_meet
   case rel => exact ⟨_, (!t353), (by first | rfl | (simp; done) | (simp [*]; done)), H', ⟨by first | omega | exact Nat.le_refl _⟩, ⟨bk_ BK350⟩, ⟨bk_ BK351⟩, ⟨bf_ HB⟩⟩
  ·replace c7 := Bool.eq_false_iff.mpr c7
   subst c7
   have H1 : (spec_Dovetail.j0 k a1 true a0_0 a0_1 a0_2) = some (r1, r2, r3) := by rw [if_neg (show ¬ (false = true) by decide)] at H; exact H
   clear H
   have H := H1
   clear H1
   have H' := Aside0.mk H
   clear H; have hnb12 := NB350_351.out; have hnc12 := NB351_350.out; obtain ⟨hcz13_0, hcz13_1, hcz13_2, hfz13_0, hfz13_1, hfz13_2⟩ := bz3_ BK350
   go_wp2_with (first | ((with_reducible refine gc_ 86 rfl ?_); refine gl_ 8 Try.func86 #[.agg #[.int .i64 a0_0, .int .i64 a0_1, .int .i64 a0_2]] ?_; (with_reducible refine (spec_TagOk.calls a0_0 a0_1 a0_2 false _ A6.out).mono ?_); rintro e w14 ⟨rfl, hb⟩; refine ⟨_, rfl, ?_⟩; replace BK350 := bb_ BK350 hb; replace BK351 := bb_ BK351 hb; replace HB := Aside0.mk (below_step (bf_ HB) hb); (try clear hb); (try clear hb2); (try clear hk); (try clear hi)))
   go_meet
   case rel => exact ⟨_, (true), (by first | rfl | (simp; done) | (simp [*]; done)), H', ⟨by first | omega | exact Nat.le_refl _⟩, ⟨bk_ BK350⟩, ⟨bk_ BK351⟩, ⟨bf_ HB⟩⟩
 case rest =>
  clear HC3; (try clear c1); (try clear p2); (try clear c7); (try clear c8); (try clear c9); (try clear c12); (try clear hcz10_0 hcz10_1 hcz10_2 hfz10_0 hfz10_1 hfz10_2); (try clear hcz13_0 hcz13_1 hcz13_2 hfz13_0 hfz13_1 hfz13_2)
  obtain ⟨kq, x14_2, rfl, HA, HJ2, BK350, BK351, HB⟩ := hcut
  cases kq with
  | zero => exact absurd HA.out (by simp [spec_Dovetail.j0])
  | succ kj2 =>
   have H := HA.out
   clear HA
   simp only [spec_Dovetail.j0] at H
   by_cases c15 : x14_2 = true
   ·subst c15
    have H1 : (some (0, 0, 0)) = some (r1, r2, r3) := by rw [if_pos rfl] at H; exact H
    clear H
    have H := H1
    clear H1
    simp only [Option.some.injEq, Prod.mk.injEq] at H
    obtain ⟨rfl, rfl, rfl⟩ := H
    have hnb16 := NB351_350.out; have hnc16 := NB350_351.out; obtain ⟨hcz17_0, hcz17_1, hcz17_2, hfz17_0, hfz17_1, hfz17_2⟩ := bz3_ BK351
    go_wp2
    refine bodyPost_ret (results_cell_row rfl _ _ gb351 29 #[.int .i64 0, .int .i64 0, .int .i64 0] (0, 0) _ rfl (by (with_reducible repeat (first | refine blk_drewN ?_ _ | refine blk_drew ?_ | refine blk_alloc ?_ _)); refine blk_put (cs := #[.int .i64 0, .int .i64 0, .int .i64 0]) ?_ 2 _ rfl; (with_reducible repeat (first | refine blk_drewN ?_ _ | refine blk_drew ?_ | refine blk_alloc ?_ _)); refine blk_put (cs := #[.int .i64 0, .int .i64 0, .int .i64 0]) ?_ 1 _ rfl; (with_reducible repeat (first | refine blk_drewN ?_ _ | refine blk_drew ?_ | refine blk_alloc ?_ _)); refine blk_put (cs := #[.int .i64 0, .int .i64 0, .int .i64 0]) ?_ 0 _ rfl; exact bk_ BK351) Try.underlying29 rfl (by kernel_rfl)) rfl ?_
    exact ⟨by first | rfl | (simp [errW_none, errW_some] <;> rfl) | (simp [*, errW_none, errW_some] <;> rfl), bf_ HB⟩
   ·replace c15 := Bool.eq_false_iff.mpr c15
    subst c15
    have H1 : ((spec_l13List.f a0_0 a0_1 a0_2).bind fun t354 => (spec_Dovetail.l0 kj2 a1 t354 0 a0_0 a0_1 a0_2)) = some (r1, r2, r3) := by rw [if_neg (show ¬ (false = true) by decide)] at H; exact H
    clear H
    have H := H1
    clear H1
    replace H := Option.bind_eq_some_iff.mp H
    obtain ⟨t354, A180, H⟩ := H
    replace H : (spec_Dovetail.l0 kj2 a1 t354 0 a0_0 a0_1 a0_2) = some (r1, r2, r3) := H
    have A18 := Aside0.mk A180
    clear A180
    have H' := Aside0.mk H
    clear H; have hnb19 := NB350_351.out; have hnc19 := NB351_350.out; obtain ⟨hcz20_0, hcz20_1, hcz20_2, hfz20_0, hfz20_1, hfz20_2⟩ := bz3_ BK350
    go_wp2_with (first | ((with_reducible refine gc_ 108 rfl ?_); refine gl_ 17 Try.func108 #[.agg #[.int .i64 a0_0, .int .i64 a0_1, .int .i64 a0_2]] ?_; (with_reducible refine (spec_l13List.calls a0_0 a0_1 a0_2 t354 _ A18.out).mono ?_); rintro e w21 ⟨v355, rfl, ho0, hb⟩; refine ⟨_, rfl, ?_⟩; have HO356 := Aside0.mk (Kd.R_lower ho0 (below_size (bf_ HB))); replace BK350 := bb_ BK350 hb; replace BK351 := bb_ BK351 hb; replace HB := Aside0.mk (below_step (bf_ HB) hb); (try clear hb); (try clear hb2); (try clear hk); (try clear hi); (try clear ho0)))
    go_loopg [6] kj2 (fun kq v6 w' => ∃ (x5_2 : List Int) (x6_2 : Int), v6 = .int .i64 x6_2 ∧ Aside0 (spec_Dovetail.l0 kq a1 x5_2 x6_2 a0_0 a0_1 a0_2 = some (r1, r2, r3)) ∧ Aside0 (kq ≤ kj2) ∧ Aside0 (Kd.R (Kd.int .i64) 3 w' w.heap.size (fun _ => True) v355 x5_2) ∧ Aside0 (w'.heap[gb350]? = some (.cells #[.int .i64 a0_0, .int .i64 a0_1, .int .i64 a0_2] 29 (0, 0))) ∧ Aside0 (w'.heap[gb351]? = some (.cells #[.int .i64 0, .int .i64 0, .int .i64 0] 29 (0, 0))) ∧ Aside0 (Below w.heap.size w w'))
    case atStart => exact ⟨(t354), (0), (by first | rfl | (simp; done) | (simp [*]; done)), H', ⟨Nat.le_refl _⟩, ⟨kr_ HO356⟩, ⟨bk_ BK350⟩, ⟨bk_ BK351⟩, ⟨bf_ HB⟩⟩
    case round =>
     clear H'
     (try clear c1); (try clear p2 p2); (try clear c7); (try clear c8); (try clear c9); (try clear c10); (try clear c12); (try clear c15); (try clear c16); (try clear c19); (try clear hcz10_0 hcz10_1 hcz10_2 hfz10_0 hfz10_1 hfz10_2); (try clear hcz13_0 hcz13_1 hcz13_2 hfz13_0 hfz13_1 hfz13_2); (try clear hcz17_0 hcz17_1 hcz17_2 hfz17_0 hfz17_1 hfz17_2); (try clear hcz20_0 hcz20_1 hcz20_2 hfz20_0 hfz20_1 hfz20_2)
     obtain ⟨x5_2, x6_2, rfl, HA, HK2, HO_5, BK350, BK351, HB⟩ := hrel
     cases gk with
     | zero => exact absurd HA.out (by simp [spec_Dovetail.l0])
     | succ k2 =>
      have H := HA.out
      clear HA
      simp only [spec_Dovetail.l0] at H
      by_cases c22 : x6_2 < 3
      ·rw [if_pos c22] at H
       have c22b0 : decide (x6_2 < 3) = true := decide_eq_true c22
       clear c22
       by_cases c23 : 0 ≤ x6_2
       ·rw [if_pos c23] at H
        have c23b0 : decide (0 ≤ x6_2) = true := decide_eq_true c23
        clear c23
        by_cases c24 : x6_2 < (x5_2.length : Int)
        ·rw [if_pos c24] at H
         have c24b0 : decide (x6_2 < (x5_2.length : Int)) = true := decide_eq_true c24
         clear c24
         replace H := Option.bind_eq_some_iff.mp H
         obtain ⟨t358, A250, H⟩ := H
         replace H : (spec_Dovetail.l0 k2 a1 (x5_2.set (x6_2 : Int).toNat (mx (rd x5_2 x6_2) (wrap64 (t358 - a1)))) (wrap64 (x6_2 + 1)) a0_0 a0_1 a0_2) = some (r1, r2, r3) := H
         have A25 := Aside0.mk A250
         clear A250
         obtain ⟨ji26, hji26⟩ : ∃ j_ : Int, (mx (rd x5_2 x6_2) (wrap64 (t358 - a1))) = j_ := ⟨_, rfl⟩
         replace H : (spec_Dovetail.l0 k2 a1 (x5_2.set (x6_2 : Int).toNat (ji26)) (wrap64 (x6_2 + 1)) a0_0 a0_1 a0_2) = some (r1, r2, r3) := by first | (rw [hji26] at H; exact H) | (simp only [hji26] at H ⊢; exact H)
         (try rw [hji26] at A25)
         have hji26_ : (if (rd x5_2 x6_2) < (wrap64 (t358 - a1)) then (wrap64 (t358 - a1)) else (rd x5_2 x6_2)) = ji26 := hji26
         obtain ⟨y359, hy359⟩ : ∃ y_ : List Int, y_ = (x5_2.set (x6_2 : Int).toNat (ji26)) := ⟨_, rfl⟩
         replace H : (spec_Dovetail.l0 k2 a1 y359 (wrap64 (x6_2 + 1)) a0_0 a0_1 a0_2) = some (r1, r2, r3) := by first | (rw [hy359]; with_reducible exact H) | (have H2_ := (Option.bind_some _ _).symm.trans H; rw [hy359]; with_reducible exact H2_) | (have H2_ := (Option.bind_some _ _).symm.trans H; with_reducible exact H2_) | with_reducible exact H | (rw [hy359]; exact H) | exact H
         have Ny359 := Aside0.mk hy359
         clear hy359
         have H' := Aside0.mk H
         clear H
         try go_wp2
         replace HO_5 := Aside0.mk (Kd.R_drew HO_5.out); replace BK350 := Aside0.mk (blk_drew BK350.out); replace BK351 := Aside0.mk (blk_drew BK351.out); replace HB := Aside0.mk (below_drew1 HB.out)
         obtain ⟨Ao29, co29, eo29⟩ := Kd.R_slice HO_5.out
         (first | subst eo29 | (injection eo29 with f1_ f2_ f3_; have f4_ := f1_.symm; have f5_ := f3_.symm; clear f1_ f2_ f3_; subst f4_; subst f5_))
         have p357 : 0 ≤ (x6_2 : Int) := od_
         have q357 : x6_2 < (x5_2.length : Int) := od_
         obtain ⟨ad357, e357, hx357_0⟩ := Kd.at_int (Kd.R_reads' HO_5.out).2.2 x6_2 p357 q357
         cases e357
         replace p357 := eq_true p357
         replace q357 := eq_true q357
         refine start_ (n := 13) (S := fun w' => cw_ w' gb350 0 (.int .i64 a0_0) ∧ cw_ w' gb350 1 (.int .i64 a0_1) ∧ cw_ w' gb350 2 (.int .i64 a0_2) ∧ w'.cell? (ad357.add (x6_2).toNat) = some (.int .i64 (rd x5_2 x6_2))) (ds := [12]) (bs 13 0) (by kernel_rfl) rfl rfl ⟨bt_ BK350 0, bt_ BK350 1, bt_ BK350 2, hx357_0⟩ (fun hHeld => ?_); refine with_tabW spec_Dovetail.tab7 spec_Dovetail.bits7 (fun HT_ HW_ => ?_)
         generalize wr.drew = w28 at HO_5 BK350 BK351 HB hx357_0 hHeld ⊢
         refine ps_ 0 22 (bs 13 1) HT_ ?_
         refine ps_ 1 23 (bs 13 2) HT_ ?_
         refine ps_ 2 24 (bs 13 3) HT_ ?_
         refine ps_ 3 25 (bs 13 4) HT_ ?_
         refine ps_ 4 26 (bs 13 5) HT_ ?_
         refine ps_ 8 30 (bm 13 287) HT_ ?_
         refine tk_ 5 27 (bm 13 319) HT_ HW_ hHeld ?_
         refine tk_ 6 28 (bm 13 383) HT_ HW_ hHeld ?_
         refine on_ 7 (some 29) (bs 13 9) HT_ (fun K hK => ?_)
         refine gs_ Try.func40 #[.agg #[.int .i64 a0_0, .int .i64 a0_1, .int .i64 a0_2]] ?_
         with_reducible refine (spec_VecTop.calls a0_0 a0_1 a0_2 t358 _ A25.out).mono ?_
         rintro e w30 ⟨rfl, hb⟩
         have HS3_ := hc_ hb hHeld.2.2.2
         refine ⟨_, rfl, ?_⟩
         replace HO_5 := Aside0.mk (Kd.R_below (kr_ HO_5) hb); replace BK350 := bb_ BK350 hb; replace BK351 := bb_ BK351 hb; replace HB := Aside0.mk (below_step (bf_ HB) hb); (try clear hb); (try clear hb2); (try clear hk); (try clear hi)
         have p27 : 0 ≤ (x6_2 : Int) := od_
         have q27 : (x6_2 : Int) < ((x5_2.length : Int) : Int) := od_
         obtain ⟨go27, co27, eo27, gb27, gl27, cl27, HG27⟩ := Kd.R_form HO_5.out (by omega)
         (first | cases eo27 | (injection eo27 with ea_ en_ ec_; (first | subst ea_ | (injection ea_ with ea_; subst ea_)); subst ec_; clear en_))
         have GB27 := Aside0.mk gb27
         have GG27 := Aside0.mk HG27
         clear gb27 gl27 HG27
         (first | simp only [add_plain] at hx357_0 | skip)
         obtain ⟨hx27_0, hf27_0⟩ := Kd.R_celln 0 HO_5.out (x6_2 : Int) p27 q27
         replace p27 := eq_true p27
         replace q27 := eq_true q27
         have HP31 := Kd.R_putn HO_5.out (x6_2 : Int) ji26
         rw [← Ny359.out] at HP31
         have HQ31 := Aside0.mk HP31
         clear HP31
         refine hK.out _ _ ⟨bt_ BK350 0, bt_ BK350 1, bt_ BK350 2, HS3_⟩ (fun hHeld => ?_)
         clear hK K
         refine norm_ (a' := ?_) ?_ ?_
         rotate_left
         ·show Act.put _ (some 29) _ = _
          simp only [Act.put, ls0_, ls1_, ls2_, i64_w, i32_w]
          rfl
         refine ps_ 9 31 (bs 13 10) HT_ ?_
         refine ps_ 10 32 (bs 13 11) HT_ ?_
         refine ps_ 11 33 (bs 13 12) HT_ ?_
         refine last_ (i := 12) (N := none) (bs 13 13) rfl rfl (one_of HT_.out (by kernel_rfl)) (by decide) (fun K hK => ?_)
         refine skip_ (w1 := ?_) (by rfl) rfl ?_ ?_
         rotate_left
         ·go_simp
          rfl
         refine hK.out _ _ ?_
         clear hK K
         refine done_ (done_of HT_.out (by kernel_rfl)) ?_
         try go_wp2
         go_roundg k2
         case measure => have := HJ2.out; have := HK2.out; omega
         case rel => exact ⟨(y359), (wrap64 (x6_2 + 1)), (by first | rfl | (simp; done) | (simp [*]; done)), H', ⟨by have := HJ2.out; have := HK2.out; omega⟩, ⟨kr_ HQ31⟩, ⟨by (with_reducible repeat (first | refine blk_drewN ?_ _ | refine blk_drew ?_ | refine blk_alloc ?_ _)); refine blk_far ?_ (by have h_ := Kd.R_ne HO_5.out BK350.out (by decide); intro e_; exact h_ (by rw [e_]; rfl)) _; exact bk_ BK350⟩, ⟨by (with_reducible repeat (first | refine blk_drewN ?_ _ | refine blk_drew ?_ | refine blk_alloc ?_ _)); refine blk_far ?_ (by have h_ := Kd.R_ne HO_5.out BK351.out (by decide); intro e_; exact h_ (by rw [e_]; rfl)) _; exact bk_ BK351⟩, ⟨by repeat (first | (with_reducible first | exact HB.out | apply below_alloc | apply pw_below_drewN | apply below_drew1 | refine below_set ?_ GB27.out | refine below_set ?_ GE350.out | refine below_set ?_ GE351.out) | exact HB.out)⟩⟩
        ·rw [if_neg c24] at H
         exact absurd H (by simp)
       ·rw [if_neg c23] at H
        exact absurd H (by simp)
      ·rw [if_neg c22] at H
       have c22b0 : decide (x6_2 < 3) = false := decide_eq_false c22
       clear c22
       replace H := Option.bind_eq_some_iff.mp H
       obtain ⟨⟨t360, t361, t362⟩, A320, H⟩ := H
       replace H : (some (t360, t361, t362)) = some (r1, r2, r3) := H
       have A32 := Aside0.mk A320
       clear A320
       simp only [Option.some.injEq, Prod.mk.injEq] at H
       obtain ⟨rfl, rfl, rfl⟩ := H
       obtain ⟨Ao33, co33, eo33⟩ := Kd.R_slice HO_5.out
       subst eo33
       go_wp2_with (first | ((with_reducible refine gc_ 109 rfl ?_); refine gl_ 35 Try.func109 #[.slice Ao33 x5_2.length co33] ?_; (with_reducible refine (spec_l13Of.calls _ _ x5_2 t360 t361 t362 _ ?side1 ?side2 A32.out).mono ?_); (case side1 => exact cr_ HO_5); (case side2 => exact (Kd.R_reads' HO_5.out).2.1); rintro e w34 ⟨rfl, hb⟩; refine ⟨_, rfl, ?_⟩; replace HO_5 := Aside0.mk (Kd.R_below (kr_ HO_5) hb); replace BK350 := bb_ BK350 hb; replace BK351 := bb_ BK351 hb; replace HB := Aside0.mk (below_step (bf_ HB) hb); (try clear hb); (try clear hb2); (try clear hk); (try clear hi); have hnb35 := NB351_350.out; have hnc35 := NB350_351.out; obtain ⟨hcz36_0, hcz36_1, hcz36_2, hfz36_0, hfz36_1, hfz36_2⟩ := bz3_ BK351))
       refine bodyPost_ret (results_cell_row rfl _ _ gb351 29 #[.int .i64 t360, .int .i64 t361, .int .i64 t362] (0, 0) _ rfl (by (with_reducible repeat (first | refine blk_drewN ?_ _ | refine blk_drew ?_ | refine blk_alloc ?_ _)); refine blk_put (cs := #[.int .i64 t360, .int .i64 t361, .int .i64 0]) ?_ 2 _ rfl; (with_reducible repeat (first | refine blk_drewN ?_ _ | refine blk_drew ?_ | refine blk_alloc ?_ _)); refine blk_put (cs := #[.int .i64 t360, .int .i64 0, .int .i64 0]) ?_ 1 _ rfl; (with_reducible repeat (first | refine blk_drewN ?_ _ | refine blk_drew ?_ | refine blk_alloc ?_ _)); refine blk_put (cs := #[.int .i64 0, .int .i64 0, .int .i64 0]) ?_ 0 _ rfl; exact bk_ BK351) Try.underlying29 rfl (by kernel_rfl)) rfl ?_
       exact ⟨by first | rfl | (simp [errW_none, errW_some] <;> rfl) | (simp [*, errW_none, errW_some] <;> rfl), bf_ HB⟩

end Go.Proofs.Ytljhaoiopokmfaa.PFnExactFairServe
