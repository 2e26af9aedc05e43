-- printed by a program of this session (wip/printx) out of the translation; Lean checks it
import Derived.Test.YtlafobfjbkhioaaVFnCarryBound
import Derived.Test.YtlafobfjbkhioaaPFnCarryBoundx0
import Derived.Test.YtlafobfjbkhioaaPFnCarryBoundx4
namespace Go.Proofs.Ytlafobfjbkhioaa.PFnCarryBound
open Go.RowKit Go.Proofs.YtlafobfjbkhioaaW.PrintWords Go.Proofs.YtlafobfjbkhioaaW.PrintLast Go.Proofs.YtlafobfjbkhioaaW.PrintMore
attribute [local go_sem] max2_int min2_int max_two min_two max_three min_three max_four min_four   -- for this text's walks alone
set_option linter.unusedVariables false
set_option linter.unusedSimpArgs false

/-! ### impl_Clip: function 134 -/
def impl_Clip.f (a0 : Int) (a1 : Int) (a2 : Int) : Option (Int) := if a0 < a1 then (some a1) else (if a0 > a2 then (some a2) else (some a0))
set_option maxHeartbeats 8000000 in
set_option maxRecDepth 100000 in
theorem impl_Clip.calls (a0 : Int) (a1 : Int) (a2 : Int) (r : Int) (w : World) (h : impl_Clip.f a0 a1 a2 = some r) :
  Calls Try.prog 134 #[.int .i64 a0, .int .i64 a1, .int .i64 a2] w fun e w' => e = .returned (.int .i64 r) ∧ Drawn0 w w' := by
 have H : (if a0 < a1 then (some a1) else (if a0 > a2 then (some a2) else (some a0))) = some r := h
 clear h
 by_cases c4 : a0 < a1
 ·rw [if_pos c4] at H
  have c4b0 : decide (a0 < a1) = true := decide_eq_true c4
  clear c4
  obtain rfl := Option.some.inj H
  go_enter Try.func134, Try.ntmps134
  go_wp2
  go_ret
  exact ⟨by first | rfl | (simp; done) | (simp [*]; done), by repeat (first | exact Drawn0.refl _ | apply Drawn0.step)⟩
 ·rw [if_neg c4] at H
  have c4b0 : decide (a0 < a1) = false := decide_eq_false c4
  clear c4
  by_cases c5 : a0 > a2
  ·rw [if_pos c5] at H
   have c5b0 : decide (a2 < a0) = true := decide_eq_true c5
   clear c5
   obtain rfl := Option.some.inj H
   go_enter Try.func134, Try.ntmps134
   go_wp2
   go_ret
   exact ⟨by first | rfl | (simp; done) | (simp [*]; done), by repeat (first | exact Drawn0.refl _ | apply Drawn0.step)⟩
  ·rw [if_neg c5] at H
   have c5b0 : decide (a2 < a0) = false := decide_eq_false c5
   clear c5
   obtain rfl := Option.some.inj H
   go_enter Try.func134, Try.ntmps134
   go_wp2
   go_ret
   exact ⟨by first | rfl | (simp; done) | (simp [*]; done), by repeat (first | exact Drawn0.refl _ | apply Drawn0.step)⟩

/-! ### impl_Charge_1: function 133 -/
def impl_Charge_1.f (a0 : Int) : Option (Int) := (impl_Clip.f a0 1 2000).bind fun t356 => (some t356)
set_option maxHeartbeats 8000000 in
set_option maxRecDepth 100000 in
theorem impl_Charge_1.calls (a0 : Int) (r : Int) (w : World) (h : impl_Charge_1.f a0 = some r) :
  Calls Try.prog 133 #[.int .i64 a0] w fun e w' => e = .returned (.int .i64 r) ∧ Drawn0 w w' := by
 have H : ((impl_Clip.f a0 1 2000).bind fun t356 => (some t356)) = some r := h
 clear h
 replace H := Option.bind_eq_some_iff.mp H
 obtain ⟨t356, A20, H⟩ := H
 replace H : (some t356) = some r := H
 have A2 := Aside0.mk A20
 clear A20
 obtain rfl := Option.some.inj H
 go_enter Try.func133, Try.ntmps133
 go_wp2_with (first | ((with_reducible refine gc_ 134 rfl ?_); refine gl_ 4 Try.func134 #[.int .i64 a0, .int .i64 1, .int .i64 2000] ?_; (with_reducible refine (impl_Clip.calls a0 1 2000 t356 _ A2.out).mono ?_); rintro e w' ⟨rfl, ⟨nd, rfl⟩⟩; refine ⟨_, rfl, ?_⟩))
 go_ret
 exact ⟨by first | rfl | (simp; done) | (simp [*]; done), by repeat (first | exact Drawn0.refl _ | apply Drawn0.step)⟩

/-! ### impl_Vec_minus_1: function 172 -/
def impl_Vec_minus_1.f (a0 : Int) (a1 : Int) : Option (Int) := some (wrap64 (a0 - a1))
set_option maxHeartbeats 8000000 in
set_option maxRecDepth 100000 in
theorem impl_Vec_minus_1.calls (a0 : Int) (a1 : Int) (r : Int) (w : World) (h : impl_Vec_minus_1.f a0 a1 = some r) :
  Calls Try.prog 172 #[.int .i64 a0, .int .i64 a1] w fun e w' => e = .returned (.int .i64 r) ∧ Drawn0 w w' := by
 have H : (some (wrap64 (a0 - a1))) = some r := h
 clear h
 obtain rfl := Option.some.inj H
 go_enter Try.func172, Try.ntmps172
 go_wp2
 go_ret
 exact ⟨by first | rfl | (simp; done) | (simp [*]; done), by repeat (first | exact Drawn0.refl _ | apply Drawn0.step)⟩

def impl_both_172.f (a0_0 : Int) (a0_1 : Int) (a0_2 : Int) (a1_0 : Int) (a1_1 : Int) (a1_2 : Int) : Option (Int × Int × Int) := (impl_Vec_minus_1.f a0_0 a1_0).bind fun r1 => (impl_Vec_minus_1.f a0_1 a1_1).bind fun r2 => (impl_Vec_minus_1.f a0_2 a1_2).bind fun r3 => some (r1, r2, r3)
theorem impl_both_172.calls (a0_0 : Int) (a0_1 : Int) (a0_2 : Int) (a1_0 : Int) (a1_1 : Int) (a1_2 : Int) (r1 r2 r3 : Int) (w : World) (h : impl_both_172.f a0_0 a0_1 a0_2 a1_0 a1_1 a1_2 = some (r1, r2, r3)) :
  Calls Try.prog 170 #[.agg #[.int .i64 a0_0, .int .i64 a0_1, .int .i64 a0_2], .agg #[.int .i64 a1_0, .int .i64 a1_1, .int .i64 a1_2], .func (.func 172) #[] #[]] w fun e w' => e = .returned (.agg #[.int .i64 r1, .int .i64 r2, .int .i64 r3]) ∧ Below w.heap.size w w' := by
 unfold impl_both_172.f at h
 obtain ⟨q1, h1, h⟩ := Option.bind_eq_some_iff.mp h
 obtain ⟨q2, h2, h⟩ := Option.bind_eq_some_iff.mp h
 obtain ⟨q3, h3, h⟩ := Option.bind_eq_some_iff.mp h
 simp only [Option.some.injEq, Prod.mk.injEq] at h
 obtain ⟨e1, e2, e3⟩ := h
 subst e1 e2 e3
 exact impl_both.calls a0_0 a0_1 a0_2 a1_0 a1_1 a1_2 q1 q2 q3 172 Try.f172 #[] Try.func172 (by kernel_rfl) rfl w (fun W _ => (impl_Vec_minus_1.calls a0_0 a1_0 q1 W h1).mono (fun e w' (hh : _ ∧ _) => (⟨hh.1, by obtain ⟨nd, rfl⟩ := hh.2; first | exact pw_below_drewN (Below.refl _ _) | (apply pw_below_drewN; exact Below.refl _ _)⟩ : _ ∧ Below W.heap.size W w'))) (fun W _ => (impl_Vec_minus_1.calls a0_1 a1_1 q2 W h2).mono (fun e w' (hh : _ ∧ _) => (⟨hh.1, by obtain ⟨nd, rfl⟩ := hh.2; first | exact pw_below_drewN (Below.refl _ _) | (apply pw_below_drewN; exact Below.refl _ _)⟩ : _ ∧ Below W.heap.size W w'))) (fun W _ => (impl_Vec_minus_1.calls a0_2 a1_2 q3 W h3).mono (fun e w' (hh : _ ∧ _) => (⟨hh.1, by obtain ⟨nd, rfl⟩ := hh.2; first | exact pw_below_drewN (Below.refl _ _) | (apply pw_below_drewN; exact Below.refl _ _)⟩ : _ ∧ Below W.heap.size W w')))

/-! ### impl_Vec_minus: function 135 -/
def impl_Vec_minus.f (a0_0 : Int) (a0_1 : Int) (a0_2 : Int) (a1_0 : Int) (a1_1 : Int) (a1_2 : Int) : Option (Int × Int × Int) := (impl_both_172.f a0_0 a0_1 a0_2 a1_0 a1_1 a1_2).bind fun bt360 => (some (bt360.1, bt360.2.1, bt360.2.2))
set_option maxHeartbeats 8000000 in
set_option maxRecDepth 100000 in
theorem impl_Vec_minus.calls (a0_0 : Int) (a0_1 : Int) (a0_2 : Int) (a1_0 : Int) (a1_1 : Int) (a1_2 : Int) (r1 : Int) (r2 : Int) (r3 : Int) (w : World) (h : impl_Vec_minus.f a0_0 a0_1 a0_2 a1_0 a1_1 a1_2 = some (r1, r2, r3)) :
  Calls Try.prog 135 #[.agg #[.int .i64 a0_0, .int .i64 a0_1, .int .i64 a0_2], .agg #[.int .i64 a1_0, .int .i64 a1_1, .int .i64 a1_2]] w fun e w' => e = .returned (.agg #[.int .i64 r1, .int .i64 r2, .int .i64 r3]) ∧ Below w.heap.size w w' := by
 have hu46 := Try.underlying46; have HB := Aside0.mk (Below.refl w.heap.size w)
 have H : ((impl_both_172.f a0_0 a0_1 a0_2 a1_0 a1_1 a1_2).bind fun bt360 => (some (bt360.1, bt360.2.1, bt360.2.2))) = some (r1, r2, r3) := h
 clear h
 replace H := Option.bind_eq_some_iff.mp H
 obtain ⟨⟨t360, t361, t362⟩, A30, H⟩ := H
 replace H : (some (t360, t361, t362)) = some (r1, r2, r3) := H
 have A3 := Aside0.mk A30
 clear A30
 simp only [Option.some.injEq, Prod.mk.injEq] at H
 obtain ⟨rfl, rfl, rfl⟩ := H
 go_enter Try.func135, Try.ntmps135
 go_wp2_with (first | ((with_reducible refine gd_ 2 rfl ?_); refine bv_ 2 #[.int .i64 a0_0, .int .i64 a0_1, .int .i64 a0_2] 46 ?_; intro gb357 hg w4 hbox hb; have BK357 := Aside0.mk (hbox); have GW357 := gw_ HB hg; have GE357 := gw_ HB hg; replace HB := Aside0.mk (below_step (be_ HB) hb); clear hb hbox hg) | ((with_reducible refine gd_ 3 rfl ?_); refine bv_ 3 #[.int .i64 a1_0, .int .i64 a1_1, .int .i64 a1_2] 46 ?_; intro gb358 hg w5 hbox hb; have BK358 := Aside0.mk (hbox); have GW358 := gw_ HB hg; have GE358 := gw_ HB hg; replace HB := Aside0.mk (below_step (bf_ HB) hb); have NB357_358 := nl_ BK357 hg; have NB358_357 := ng_ BK357 hg; replace BK357 := bb_ BK357 hb; clear hb hbox hg) | ((with_reducible refine gd_ 4 rfl ?_); refine bv_ 4 #[.int .i64 0, .int .i64 0, .int .i64 0] 46 ?_; intro gb359 hg w6 hbox hb; have BK359 := Aside0.mk (hbox); have GW359 := gw_ HB hg; have GE359 := gw_ HB hg; replace HB := Aside0.mk (below_step (bf_ HB) hb); have NB357_359 := nl_ BK357 hg; have NB359_357 := ng_ BK357 hg; replace BK357 := bb_ BK357 hb; have NB358_359 := nl_ BK358 hg; have NB359_358 := ng_ BK358 hg; replace BK358 := bb_ BK358 hb; clear hb hbox hg; have hnb7 := NB357_358.out; have hnc7 := NB358_357.out; have hnb8 := NB357_359.out; have hnc8 := NB359_357.out; obtain ⟨hcz9_0, hcz9_1, hcz9_2, hfz9_0, hfz9_1, hfz9_2⟩ := bz3_ BK357; have hnb10 := NB358_359.out; have hnc10 := NB359_358.out; obtain ⟨hcz11_0, hcz11_1, hcz11_2, hfz11_0, hfz11_1, hfz11_2⟩ := bz3_ BK358) | ((with_reducible refine gc_ 170 rfl ?_); refine gl_ 7 Try.func170 #[.agg #[.int .i64 a0_0, .int .i64 a0_1, .int .i64 a0_2], .agg #[.int .i64 a1_0, .int .i64 a1_1, .int .i64 a1_2], .func (.func 172) #[] #[]] ?_; (with_reducible refine (impl_both_172.calls a0_0 a0_1 a0_2 a1_0 a1_1 a1_2 t360 t361 t362 _ A3.out).mono ?_); rintro e w12 ⟨rfl, hb⟩; refine ⟨_, rfl, ?_⟩; replace BK357 := bb_ BK357 hb; replace BK358 := bb_ BK358 hb; replace BK359 := bb_ BK359 hb; replace HB := Aside0.mk (below_step (bf_ HB) hb); (try clear hb); (try clear hb2); (try clear hk); (try clear hi); obtain ⟨hcz13_0, hcz13_1, hcz13_2, hfz13_0, hfz13_1, hfz13_2⟩ := bz3_ BK359))
 refine bodyPost_ret (results_cell_row rfl _ _ gb359 46 #[.int .i64 t360, .int .i64 t361, .int .i64 t362] (0, 0) _ rfl (by (with_reducible repeat (first | refine blk_drewN ?_ _ | refine blk_drew ?_ | refine blk_alloc ?_ _)); refine blk_put (cs := #[.int .i64 t360, .int .i64 t361, .int .i64 0]) ?_ 2 _ rfl; (with_reducible repeat (first | refine blk_drewN ?_ _ | refine blk_drew ?_ | refine blk_alloc ?_ _)); refine blk_put (cs := #[.int .i64 t360, .int .i64 0, .int .i64 0]) ?_ 1 _ rfl; (with_reducible repeat (first | refine blk_drewN ?_ _ | refine blk_drew ?_ | refine blk_alloc ?_ _)); refine blk_put (cs := #[.int .i64 0, .int .i64 0, .int .i64 0]) ?_ 0 _ rfl; exact bk_ BK359) Try.underlying46 rfl (by kernel_rfl)) rfl ?_
 exact ⟨by first | rfl | (simp [errW_none, errW_some] <;> rfl) | (simp [*, errW_none, errW_some] <;> rfl), bf_ HB⟩

/-! ### impl_Vec_each: function 132 -/
def impl_Vec_each.T1 : Bool × List (List Nat × List Nat) := (true, [([], []), ([], []), ([1], [1]), ([0, 2], [0, 2]), ([], []), ([], []), ([5], [5]), ([4, 6, 3], [4, 6]), ([], []), ([], []), ([9], [9]), ([8, 10, 7], [8, 10]), ([3, 7, 11], [3, 7, 11]), ([12, 11, 0, 1, 2, 3, 4, 5, 6, 7, 8, 9, 10, 11, 12], [12])])
def impl_Vec_each.B1 : List Nat := [0, 0, 2, 7, 0, 0, 32, 127, 0, 0, 512, 2047, 4095, 8191]
theorem impl_Vec_each.tab1 : rtab .any (opsOf Try.f132 1) = impl_Vec_each.T1 := by kernel_rfl
theorem impl_Vec_each.bits1 : waitsOk impl_Vec_each.T1.2 impl_Vec_each.B1 = true := by kernel_rfl
set_option maxHeartbeats 8000000 in
set_option maxRecDepth 100000 in
theorem impl_Vec_each.calls (a0_0 : Int) (a0_1 : Int) (a0_2 : Int) (t104 t105 t106 : Int) (nc : Nat) (fnc : Func) (lb : Array Value) (hf : Try.prog.funcs[nc]? = some fnc) (hname : (fnc.name == "runtime.NumGoroutine") = false) (hbd : fnc.body.isSome = true) (w : World)
  (h1 : ∀ (W : World), Below w.heap.size w W → Calls Try.prog nc (#[.int .i64 a0_0] ++ lb) W fun e w' => e = .returned (.int .i64 t104) ∧ Below W.heap.size W w')
  (h2 : ∀ (W : World), Below w.heap.size w W → Calls Try.prog nc (#[.int .i64 a0_1] ++ lb) W fun e w' => e = .returned (.int .i64 t105) ∧ Below W.heap.size W w')
  (h3 : ∀ (W : World), Below w.heap.size w W → Calls Try.prog nc (#[.int .i64 a0_2] ++ lb) W fun e w' => e = .returned (.int .i64 t106) ∧ Below W.heap.size W w') :
  Calls Try.prog 132 #[.agg #[.int .i64 a0_0, .int .i64 a0_1, .int .i64 a0_2], .func (.func nc) #[] lb] w fun e w' => e = .returned (.agg #[.int .i64 t104, .int .i64 t105, .int .i64 t106]) ∧ Below w.heap.size w w' := by
 have HF := Aside0.mk hf
 have HNM := Aside0.mk hname
 have HBD := Aside0.mk hbd
 have HG1 := Aside0.mk h1
 have HG2 := Aside0.mk h2
 have HG3 := Aside0.mk h3
 clear hf hname hbd h1 h2 h3
 have hu46 := Try.underlying46
 have HB := Aside0.mk (Below.refl w.heap.size w)
 go_enter Try.func132, Try.ntmps132
 try go_wp2_with (first | ((with_reducible refine gd_ 2 rfl ?_); refine bv_ 2 #[.int .i64 a0_0, .int .i64 a0_1, .int .i64 a0_2] 46 ?_; intro gb102 hg w6 hbox hb; have BK102 := Aside0.mk (hbox); have GW102 := Aside0.mk ((by rw [hg]; exact (below_size (be_ HB)) : w.heap.size ≤ gb102)); have GE102 := Aside0.mk ((by rw [hg]; exact (below_size (be_ HB)) : w.heap.size ≤ gb102)); replace HB := Aside0.mk (below_step (be_ HB) hb); clear hb hbox hg) | ((with_reducible refine gd_ 4 rfl ?_); refine bv_ 4 #[.int .i64 0, .int .i64 0, .int .i64 0] 46 ?_; intro gb103 hg w7 hbox hb; have BK103 := Aside0.mk (hbox); have GW103 := Aside0.mk ((by rw [hg]; exact (below_size (by repeat (first | (with_reducible first | exact HB.out | apply below_alloc | apply pw_below_drewN | apply below_drew1 | refine below_set ?_ GE102.out) | exact HB.out))) : w.heap.size ≤ gb103)); have GE103 := Aside0.mk ((by rw [hg]; exact (below_size (by repeat (first | (with_reducible first | exact HB.out | apply below_alloc | apply pw_below_drewN | apply below_drew1 | refine below_set ?_ GE102.out) | exact HB.out))) : w.heap.size ≤ gb103)); replace HB := Aside0.mk (below_step (by repeat (first | (with_reducible first | exact HB.out | apply below_alloc | apply pw_below_drewN | apply below_drew1 | refine below_set ?_ GE102.out) | exact HB.out)) hb); have NB102_103 := Aside0.mk ((by rw [hg]; exact Nat.ne_of_lt (blk_lt (g := gb102) (o := .cells #[.int .i64 a0_0, .int .i64 a0_1, .int .i64 a0_2] 46 (0, 0)) (bk_ BK102)) : gb102 ≠ gb103)); have NB103_102 := Aside0.mk ((by rw [hg]; exact Nat.ne_of_gt (blk_lt (g := gb102) (o := .cells #[.int .i64 a0_0, .int .i64 a0_1, .int .i64 a0_2] 46 (0, 0)) (bk_ BK102)) : gb103 ≠ gb102)); replace BK102 := Aside0.mk (blk_below (g := gb102) (o := .cells #[.int .i64 a0_0, .int .i64 a0_1, .int .i64 a0_2] 46 (0, 0)) (bk_ BK102) hb); clear hb hbox hg))
 have n0_ := Aside0.mk (blk_drew BK102.out)
 have n1_ := Aside0.mk (blk_drew BK103.out)
 have n2_ := Aside0.mk (below_drew1 HB.out)
 clear BK102
 clear BK103
 clear HB
 have BK102 := n0_
 have BK103 := n1_
 have HB := n2_
 clear n0_ n1_ n2_
 refine start_ (n := 14) (S := fun w' => cw_ w' gb102 0 (.int .i64 a0_0) ∧ cw_ w' gb102 1 (.int .i64 a0_1) ∧ cw_ w' gb102 2 (.int .i64 a0_2)) (ds := []) (bs 14 0) (by kernel_rfl) rfl rfl ⟨(blk_cell BK102.out 0).trans rfl, (blk_cell BK102.out 1).trans rfl, (blk_cell BK102.out 2).trans rfl⟩ (fun hHeld => ?_); refine with_tabW impl_Vec_each.tab1 impl_Vec_each.bits1 (fun HT_ HW_ => ?_)
 generalize w7.drew = w8 at BK102 BK103 HB hHeld ⊢
 refine ps_ 0 5 (bs 14 1) HT_ ?_
 refine ps_ 1 6 (bs 14 2) HT_ ?_
 refine ps_ 4 9 (bm 14 19) HT_ ?_
 refine ps_ 5 10 (bm 14 51) HT_ ?_
 refine ps_ 8 13 (bm 14 307) HT_ ?_
 refine ps_ 9 14 (bm 14 819) HT_ ?_
 refine tk_ 2 7 (bm 14 823) HT_ HW_ hHeld ?_
 refine tk_ 6 11 (bm 14 887) HT_ HW_ hHeld ?_
 refine tk_ 10 15 (bm 14 1911) HT_ HW_ hHeld ?_
 refine on_ 3 (some 8) (bm 14 1919) HT_ (fun K hK => ?_)
 refine goesV_ (t := 5) HF.out HNM.out HBD.out #[.int .i64 a0_0] lb (by rfl) rfl rfl (by rfl) mt_ ?_
 refine (HG1.out _ (by repeat (first | (with_reducible first | exact HB.out | apply below_alloc | apply pw_below_drewN | apply below_drew1 | refine below_set ?_ GE102.out | refine below_set ?_ GE103.out) | exact HB.out))).mono ?_
 rintro e w9 ⟨rfl, hb⟩
 refine ⟨_, rfl, ?_⟩
 have n0_ := Aside0.mk (blk_below (g := gb102) (o := .cells #[.int .i64 a0_0, .int .i64 a0_1, .int .i64 a0_2] 46 (0, 0)) (bk_ BK102) hb)
 have n1_ := Aside0.mk (blk_below (g := gb103) (o := .cells #[.int .i64 0, .int .i64 0, .int .i64 0] 46 (0, 0)) (bk_ BK103) hb)
 have n2_ := Aside0.mk (below_step (by repeat (first | (with_reducible first | exact HB.out | apply below_alloc | apply pw_below_drewN | apply below_drew1 | refine below_set ?_ GE102.out | refine below_set ?_ GE103.out) | exact HB.out)) hb)
 clear BK102
 clear BK103
 clear HB
 have BK102 := n0_
 have BK103 := n1_
 have HB := n2_
 clear n0_ n1_ n2_
 (try clear hb)
 (try clear hb2)
 (try clear hk)
 (try clear hi)
 refine hK.out _ _ ⟨(blk_cell BK102.out 0).trans rfl, (blk_cell BK102.out 1).trans rfl, (blk_cell BK102.out 2).trans rfl⟩ (fun hHeld => ?_)
 clear hK K
 refine norm_ (a' := ?_) ?_ ?_
 rotate_left
 ·show Act.put _ (some 8) _ = _
  simp only [Act.put, ls0_, ls1_, ls2_, i64_w, i32_w]
  rfl
 refine on_ 7 (some 12) (bs 14 11) HT_ (fun K hK => ?_)
 refine goesV_ (t := 9) HF.out HNM.out HBD.out #[.int .i64 a0_1] lb (by rfl) rfl rfl (by rfl) mt_ ?_
 refine (HG2.out _ (by repeat (first | (with_reducible first | exact HB.out | apply below_alloc | apply pw_below_drewN | apply below_drew1 | refine below_set ?_ GE102.out | refine below_set ?_ GE103.out) | exact HB.out))).mono ?_
 rintro e w10 ⟨rfl, hb⟩
 refine ⟨_, rfl, ?_⟩
 have n0_ := Aside0.mk (blk_below (g := gb102) (o := .cells #[.int .i64 a0_0, .int .i64 a0_1, .int .i64 a0_2] 46 (0, 0)) (bk_ BK102) hb)
 have n1_ := Aside0.mk (blk_below (g := gb103) (o := .cells #[.int .i64 0, .int .i64 0, .int .i64 0] 46 (0, 0)) (bk_ BK103) hb)
 have n2_ := Aside0.mk (below_step (by repeat (first | (with_reducible first | exact HB.out | apply below_alloc | apply pw_below_drewN | apply below_drew1 | refine below_set ?_ GE102.out | refine below_set ?_ GE103.out) | exact HB.out)) hb)
 clear BK102
 clear BK103
 clear HB
 have BK102 := n0_
 have BK103 := n1_
 have HB := n2_
 clear n0_ n1_ n2_
 (try clear hb)
 (try clear hb2)
 (try clear hk)
 (try clear hi)
 refine hK.out _ _ ⟨(blk_cell BK102.out 0).trans rfl, (blk_cell BK102.out 1).trans rfl, (blk_cell BK102.out 2).trans rfl⟩ (fun hHeld => ?_)
 clear hK K
 refine norm_ (a' := ?_) ?_ ?_
 rotate_left
 ·show Act.put _ (some 12) _ = _
  simp only [Act.put, ls0_, ls1_, ls2_, i64_w, i32_w]
  rfl
 refine on_ 11 (some 16) (bs 14 12) HT_ (fun K hK => ?_)
 refine goesV_ (t := 13) HF.out HNM.out HBD.out #[.int .i64 a0_2] lb (by rfl) rfl rfl (by rfl) mt_ ?_
 refine (HG3.out _ (by repeat (first | (with_reducible first | exact HB.out | apply below_alloc | apply pw_below_drewN | apply below_drew1 | refine below_set ?_ GE102.out | refine below_set ?_ GE103.out) | exact HB.out))).mono ?_
 rintro e w11 ⟨rfl, hb⟩
 refine ⟨_, rfl, ?_⟩
 have n0_ := Aside0.mk (blk_below (g := gb102) (o := .cells #[.int .i64 a0_0, .int .i64 a0_1, .int .i64 a0_2] 46 (0, 0)) (bk_ BK102) hb)
 have n1_ := Aside0.mk (blk_below (g := gb103) (o := .cells #[.int .i64 0, .int .i64 0, .int .i64 0] 46 (0, 0)) (bk_ BK103) hb)
 have n2_ := Aside0.mk (below_step (by repeat (first | (with_reducible first | exact HB.out | apply below_alloc | apply pw_below_drewN | apply below_drew1 | refine below_set ?_ GE102.out | refine below_set ?_ GE103.out) | exact HB.out)) hb)
 clear BK102
 clear BK103
 clear HB
 have BK102 := n0_
 have BK103 := n1_
 have HB := n2_
 clear n0_ n1_ n2_
 (try clear hb)
 (try clear hb2)
 (try clear hk)
 (try clear hi)
 refine hK.out _ _ ⟨(blk_cell BK102.out 0).trans rfl, (blk_cell BK102.out 1).trans rfl, (blk_cell BK102.out 2).trans rfl⟩ (fun hHeld => ?_)
 clear hK K
 refine norm_ (a' := ?_) ?_ ?_
 rotate_left
 ·show Act.put _ (some 16) _ = _
  simp only [Act.put, ls0_, ls1_, ls2_, i64_w, i32_w]
  rfl
 refine ps_ 12 17 (bs 14 13) HT_ ?_
 refine on_ 13 none (bs 14 14) HT_ (fun K hK => ?_)
 have hs12 : w11.cell? ⟨gb103, 0, none⟩ = some (.int .i64 0) := (blk_cell BK103.out 0).trans rfl
 have hfs12 := blk_frozen BK103.out 0
 have hns12_0 := NB102_103.out
 have hms12_0 := NB103_102.out
 have hs13 : w11.cell? ⟨gb103, 1, none⟩ = some (.int .i64 0) := (blk_cell BK103.out 1).trans rfl
 have hfs13 := blk_frozen BK103.out 1
 have hns13_0 := NB102_103.out
 have hms13_0 := NB103_102.out
 have hs14 : w11.cell? ⟨gb103, 2, none⟩ = some (.int .i64 0) := (blk_cell BK103.out 2).trans rfl
 have hfs14 := blk_frozen BK103.out 2
 have hns14_0 := NB102_103.out
 have hms14_0 := NB103_102.out
 refine skip_ (w1 := ?_) (by rfl) rfl ?_ ?_
 rotate_left
 ·go_simp
  rfl
 refine hK.out _ _ ⟨(cf3_ NB102_103.out hHeld.1), (cf3_ NB102_103.out hHeld.2.1), (cf3_ NB102_103.out hHeld.2.2)⟩ (fun hHeld => ?_)
 clear hK K
 refine done_ (done_of HT_.out (by kernel_rfl)) ?_
 try go_wp2
 refine bodyPost_ret (results_cell_row rfl _ _ gb103 46 #[.int .i64 t104, .int .i64 t105, .int .i64 t106] (0, 0) _ rfl (by (with_reducible repeat (first | refine blk_drewN ?_ _ | refine blk_drew ?_ | refine blk_alloc ?_ _)); refine blk_put (cs := #[.int .i64 t104, .int .i64 t105, .int .i64 0]) ?_ 2 _ rfl; (with_reducible repeat (first | refine blk_drewN ?_ _ | refine blk_drew ?_ | refine blk_alloc ?_ _)); refine blk_put (cs := #[.int .i64 t104, .int .i64 0, .int .i64 0]) ?_ 1 _ rfl; (with_reducible repeat (first | refine blk_drewN ?_ _ | refine blk_drew ?_ | refine blk_alloc ?_ _)); refine blk_put (cs := #[.int .i64 0, .int .i64 0, .int .i64 0]) ?_ 0 _ rfl; exact bk_ BK103) Try.underlying46 rfl (by kernel_rfl)) rfl ?_
 exact ⟨by first | rfl | (simp [errW_none, errW_some] <;> rfl) | (simp [*, errW_none, errW_some] <;> rfl), by repeat (first | (with_reducible first | exact HB.out | apply below_alloc | apply pw_below_drewN | apply below_drew1 | refine below_set ?_ GE102.out | refine below_set ?_ GE103.out) | exact HB.out)⟩


def impl_Vec_each_133.f (a0_0 : Int) (a0_1 : Int) (a0_2 : Int) : Option (Int × Int × Int) := (impl_Charge_1.f a0_0).bind fun r1 => (impl_Charge_1.f a0_1).bind fun r2 => (impl_Charge_1.f a0_2).bind fun r3 => some (r1, r2, r3)
theorem impl_Vec_each_133.calls (a0_0 : Int) (a0_1 : Int) (a0_2 : Int) (r1 r2 r3 : Int) (w : World) (h : impl_Vec_each_133.f a0_0 a0_1 a0_2 = some (r1, r2, r3)) :
  Calls Try.prog 132 #[.agg #[.int .i64 a0_0, .int .i64 a0_1, .int .i64 a0_2], .func (.func 133) #[] #[]] w fun e w' => e = .returned (.agg #[.int .i64 r1, .int .i64 r2, .int .i64 r3]) ∧ Below w.heap.size w w' := by
 unfold impl_Vec_each_133.f at h
 obtain ⟨q1, h1, h⟩ := Option.bind_eq_some_iff.mp h
 obtain ⟨q2, h2, h⟩ := Option.bind_eq_some_iff.mp h
 obtain ⟨q3, h3, h⟩ := Option.bind_eq_some_iff.mp h
 simp only [Option.some.injEq, Prod.mk.injEq] at h
 obtain ⟨e1, e2, e3⟩ := h
 subst e1 e2 e3
 exact impl_Vec_each.calls a0_0 a0_1 a0_2 q1 q2 q3 133 Try.f133 #[] Try.func133 (by kernel_rfl) rfl w (fun W _ => (impl_Charge_1.calls a0_0 q1 W h1).mono (fun e w' (hh : _ ∧ _) => (⟨hh.1, by obtain ⟨nd, rfl⟩ := hh.2; first | exact pw_below_drewN (Below.refl _ _) | (apply pw_below_drewN; exact Below.refl _ _)⟩ : _ ∧ Below W.heap.size W w'))) (fun W _ => (impl_Charge_1.calls a0_1 q2 W h2).mono (fun e w' (hh : _ ∧ _) => (⟨hh.1, by obtain ⟨nd, rfl⟩ := hh.2; first | exact pw_below_drewN (Below.refl _ _) | (apply pw_below_drewN; exact Below.refl _ _)⟩ : _ ∧ Below W.heap.size W w'))) (fun W _ => (impl_Charge_1.calls a0_2 q3 W h3).mono (fun e w' (hh : _ ∧ _) => (⟨hh.1, by obtain ⟨nd, rfl⟩ := hh.2; first | exact pw_below_drewN (Below.refl _ _) | (apply pw_below_drewN; exact Below.refl _ _)⟩ : _ ∧ Below W.heap.size W w')))

/-! ### impl_Charge: function 65 -/
def impl_Charge.j0 : Nat → Bool → Int → Int → Int → Int → Int → Int → Option (Int × Int × Int × Int × Int × Int)
  | 0, _, _, _, _, _, _, _ => none
  | k + 1, x15, x364000, x364001, x364002, x365000, x365001, x365002 => if x15 = true then (some (0, 0, 0, 0, 0, 0)) else ((impl_Vec_plus.f x364000 x364001 x364002 x365000 x365001 x365002).bind fun bt369 => ((impl_Vec_each_133.f bt369.1 bt369.2.1 bt369.2.2).bind fun bt373 => ((impl_Vec_minus.f bt369.1 bt369.2.1 bt369.2.2 bt373.1 bt373.2.1 bt373.2.2).bind fun bt377 => (some (bt373.1, bt373.2.1, bt373.2.2, bt377.1, bt377.2.1, bt377.2.2)))))
def impl_Charge.f (k : Nat) (a0_0 : Int) (a0_1 : Int) (a0_2 : Int) (a1_0 : Int) (a1_1 : Int) (a1_2 : Int) : Option (Int × Int × Int × Int × Int × Int) := (impl_CostOk.f a0_0 a0_1 a0_2).bind fun t367 => (if t367 = true then ((impl_CarryOk.f a1_0 a1_1 a1_2).bind fun t368 => (impl_Charge.j0 k (!t368) a0_0 a0_1 a0_2 a1_0 a1_1 a1_2)) else (impl_Charge.j0 k true a0_0 a0_1 a0_2 a1_0 a1_1 a1_2))
theorem impl_Charge.mono_l : ∀ k, (∀ y0 y1 y2 y3 y4 y5 y6, LeO (impl_Charge.j0 k y0 y1 y2 y3 y4 y5 y6) (impl_Charge.j0 (k + 1) y0 y1 y2 y3 y4 y5 y6))
 | 0 => fun _ _ _ _ _ _ _ r h => by simp [impl_Charge.j0] at h
 | k + 1 => by
  have ih0 := impl_Charge.mono_l k
  ·intro y0 y1 y2 y3 y4 y5 y6
   unfold impl_Charge.j0
   repeat' first
   | (with_reducible exact ih0 _ _ _ _ _ _ _)
   | (with_reducible exact LeO.refl _)
   | (with_reducible exact LeO.none _)
   | (with_reducible refine LeO.ite ?_ ?_)
   | (with_reducible refine LeO.bind ?_ (fun _ => ?_))
   | exact ih0 _ _ _ _ _ _ _
   | exact LeO.none _
   | refine LeO.ite ?_ ?_
   | refine LeO.bind ?_ (fun _ => ?_)
theorem impl_Charge.mono : ∀ a0 a1 a2 a3 a4 a5 k, LeO (impl_Charge.f k a0 a1 a2 a3 a4 a5) (impl_Charge.f (k + 1) a0 a1 a2 a3 a4 a5) := by
 intro a0 a1 a2 a3 a4 a5 k
 have ih0 := impl_Charge.mono_l k
 unfold impl_Charge.f
 repeat' first
   | (with_reducible exact ih0 _ _ _ _ _ _ _)
   | (with_reducible exact LeO.refl _)
   | (with_reducible exact LeO.none _)
   | (with_reducible refine LeO.ite ?_ ?_)
   | (with_reducible refine LeO.bind ?_ (fun _ => ?_))
   | exact ih0 _ _ _ _ _ _ _
   | exact LeO.none _
   | refine LeO.ite ?_ ?_
   | refine LeO.bind ?_ (fun _ => ?_)
set_option maxHeartbeats 8000000 in
set_option maxRecDepth 100000 in
theorem impl_Charge.calls (k : Nat) (a0_0 : Int) (a0_1 : Int) (a0_2 : Int) (a1_0 : Int) (a1_1 : Int) (a1_2 : Int) (r1 : Int) (r2 : Int) (r3 : Int) (r4 : Int) (r5 : Int) (r6 : Int) (w : World) (h : impl_Charge.f k a0_0 a0_1 a0_2 a1_0 a1_1 a1_2 = some (r1, r2, r3, r4, r5, r6)) :
  Calls Try.prog 65 #[.agg #[.int .i64 a0_0, .int .i64 a0_1, .int .i64 a0_2], .agg #[.int .i64 a1_0, .int .i64 a1_1, .int .i64 a1_2]] w fun e w' => e = .returned (.tuple #[.agg #[.int .i64 r1, .int .i64 r2, .int .i64 r3], .agg #[.int .i64 r4, .int .i64 r5, .int .i64 r6]]) ∧ Below w.heap.size w w' := by
 have hu46 := Try.underlying46; have HB := Aside0.mk (Below.refl w.heap.size w)
 have H : ((impl_CostOk.f a0_0 a0_1 a0_2).bind fun t367 => (if t367 = true then ((impl_CarryOk.f a1_0 a1_1 a1_2).bind fun t368 => (impl_Charge.j0 k (!t368) a0_0 a0_1 a0_2 a1_0 a1_1 a1_2)) else (impl_Charge.j0 k true a0_0 a0_1 a0_2 a1_0 a1_1 a1_2))) = some (r1, r2, r3, r4, r5, r6) := h
 clear h
 have HC3 := Aside0.mk H
 clear H
 go_enter Try.func65, Try.ntmps65
 go_upto_region 1 with (first | ((with_reducible refine gd_ 2 rfl ?_); refine bv_ 2 #[.int .i64 a0_0, .int .i64 a0_1, .int .i64 a0_2] 46 ?_; intro gb363 hg w4 hbox hb; have BK363 := Aside0.mk (hbox); have GW363 := gw_ HB hg; have GE363 := gw_ HB hg; replace HB := Aside0.mk (below_step (be_ HB) hb); clear hb hbox hg) | ((with_reducible refine gd_ 3 rfl ?_); refine bv_ 3 #[.int .i64 a1_0, .int .i64 a1_1, .int .i64 a1_2] 46 ?_; intro gb364 hg w5 hbox hb; have BK364 := Aside0.mk (hbox); have GW364 := gw_ HB hg; have GE364 := gw_ HB hg; replace HB := Aside0.mk (below_step (bf_ HB) hb); have NB363_364 := nl_ BK363 hg; have NB364_363 := ng_ BK363 hg; replace BK363 := bb_ BK363 hb; clear hb hbox hg) | ((with_reducible refine gd_ 4 rfl ?_); refine bv_ 4 #[.int .i64 0, .int .i64 0, .int .i64 0] 46 ?_; intro gb365 hg w6 hbox hb; have BK365 := Aside0.mk (hbox); have GW365 := gw_ HB hg; have GE365 := gw_ HB hg; replace HB := Aside0.mk (below_step (bf_ HB) hb); have NB363_365 := nl_ BK363 hg; have NB365_363 := ng_ BK363 hg; replace BK363 := bb_ BK363 hb; have NB364_365 := nl_ BK364 hg; have NB365_364 := ng_ BK364 hg; replace BK364 := bb_ BK364 hb; clear hb hbox hg) | ((with_reducible refine gd_ 5 rfl ?_); refine bv_ 5 #[.int .i64 0, .int .i64 0, .int .i64 0] 46 ?_; intro gb366 hg w7 hbox hb; have BK366 := Aside0.mk (hbox); have GW366 := gw_ HB hg; have GE366 := gw_ HB hg; replace HB := Aside0.mk (below_step (bf_ HB) hb); have NB363_366 := nl_ BK363 hg; have NB366_363 := ng_ BK363 hg; replace BK363 := bb_ BK363 hb; have NB364_366 := nl_ BK364 hg; have NB366_364 := ng_ BK364 hg; replace BK364 := bb_ BK364 hb; have NB365_366 := nl_ BK365 hg; have NB366_365 := ng_ BK365 hg; replace BK365 := bb_ BK365 hb; clear hb hbox hg))
 (try simp only [Act.put, ls0_, ls1_, ls2_])
 go_cut [15] (fun v15 wc => ∃ (kq : Nat) (x15_2 : Bool), v15 = .bool x15_2 ∧ Aside0 (impl_Charge.j0 kq x15_2 a0_0 a0_1 a0_2 a1_0 a1_1 a1_2 = some (r1, r2, r3, r4, r5, r6)) ∧ Aside0 (kq ≤ k) ∧ Aside0 (wc.heap[gb363]? = some (.cells #[.int .i64 a0_0, .int .i64 a0_1, .int .i64 a0_2] 46 (0, 0))) ∧ Aside0 (wc.heap[gb364]? = some (.cells #[.int .i64 a1_0, .int .i64 a1_1, .int .i64 a1_2] 46 (0, 0))) ∧ Aside0 (wc.heap[gb365]? = some (.cells #[.int .i64 0, .int .i64 0, .int .i64 0] 46 (0, 0))) ∧ Aside0 (wc.heap[gb366]? = some (.cells #[.int .i64 0, .int .i64 0, .int .i64 0] 46 (0, 0))) ∧ Aside0 (Below w.heap.size w wc))
 case first =>
  have H := HC3.out
  clear HC3
  replace H := Option.bind_eq_some_iff.mp H
  obtain ⟨t367, A80, H⟩ := H
  replace H : (if t367 = true then ((impl_CarryOk.f a1_0 a1_1 a1_2).bind fun t368 => (impl_Charge.j0 k (!t368) a0_0 a0_1 a0_2 a1_0 a1_1 a1_2)) else (impl_Charge.j0 k true a0_0 a0_1 a0_2 a1_0 a1_1 a1_2)) = some (r1, r2, r3, r4, r5, r6) := H
  have A8 := Aside0.mk A80
  clear A80
  by_cases c9 : t367 = true
  ·subst c9
   have H1 : ((impl_CarryOk.f a1_0 a1_1 a1_2).bind fun t368 => (impl_Charge.j0 k (!t368) a0_0 a0_1 a0_2 a1_0 a1_1 a1_2)) = some (r1, r2, r3, r4, r5, r6) := by rw [if_pos rfl] at H; exact H
   clear H
   have H := H1
   clear H1
   replace H := Option.bind_eq_some_iff.mp H
   obtain ⟨t368, A100, H⟩ := H
   replace H : (impl_Charge.j0 k (!t368) a0_0 a0_1 a0_2 a1_0 a1_1 a1_2) = some (r1, r2, r3, r4, r5, r6) := H
   have A10 := Aside0.mk A100
   clear A100
   have H' := Aside0.mk H
   clear H; have hnb11 := NB363_364.out; have hnc11 := NB364_363.out; have hnb12 := NB363_365.out; have hnc12 := NB365_363.out; have hnb13 := NB363_366.out; have hnc13 := NB366_363.out; obtain ⟨hcz14_0, hcz14_1, hcz14_2, hfz14_0, hfz14_1, hfz14_2⟩ := bz3_ BK363
   go_wp2_with (first | ((with_reducible refine gc_ 64 rfl ?_); refine gl_ 9 Try.func64 #[.agg #[.int .i64 a0_0, .int .i64 a0_1, .int .i64 a0_2]] ?_; (with_reducible refine (impl_CostOk.calls a0_0 a0_1 a0_2 true _ A8.out).mono ?_); rintro e w15 ⟨rfl, hb⟩; refine ⟨_, rfl, ?_⟩; replace BK363 := bb_ BK363 hb; replace BK364 := bb_ BK364 hb; replace BK365 := bb_ BK365 hb; replace BK366 := bb_ BK366 hb; replace HB := Aside0.mk (below_step (bf_ HB) hb); (try clear hb); (try clear hb2); (try clear hk); (try clear hi); have hnb16 := NB364_365.out; have hnc16 := NB365_364.out; have hnb17 := NB364_366.out; have hnc17 := NB366_364.out; obtain ⟨hcz18_0, hcz18_1, hcz18_2, hfz18_0, hfz18_1, hfz18_2⟩ := bz3_ BK364) | (go_at_call 130; (with_reducible refine (impl_CarryOk.calls a1_0 a1_1 a1_2 t368 _ A10.out).mono ?_); rintro e w19 ⟨rfl, hb⟩; replace BK363 := bb_ BK363 hb; replace BK364 := bb_ BK364 hb; replace BK365 := bb_ BK365 hb; replace BK366 := bb_ BK366 hb; replace HB := Aside0.mk (below_step (bf_ HB) hb); (try clear hb); (try clear hb2); (try clear hk); (try clear hi)))
   go_meet
   case rel => exact ⟨_, (!t368), (by first | rfl | (simp; done) | (simp [*]; done)), H', ⟨by first | omega | exact Nat.le_refl _⟩, ⟨bk_ BK363⟩, ⟨bk_ BK364⟩, ⟨bk_ BK365⟩, ⟨bk_ BK366⟩, ⟨bf_ HB⟩⟩
  ·replace c9 := Bool.eq_false_iff.mpr c9
   subst c9
   have H1 : (impl_Charge.j0 k true a0_0 a0_1 a0_2 a1_0 a1_1 a1_2) = some (r1, r2, r3, r4, r5, r6) := by rw [if_neg (show ¬ (false = true) by decide)] at H; exact H
   clear H
   have H := H1
   clear H1
   have H' := Aside0.mk H
   clear H; have hnb20 := NB363_364.out; have hnc20 := NB364_363.out; have hnb21 := NB363_365.out; have hnc21 := NB365_363.out; have hnb22 := NB363_366.out; have hnc22 := NB366_363.out; obtain ⟨hcz23_0, hcz23_1, hcz23_2, hfz23_0, hfz23_1, hfz23_2⟩ := bz3_ BK363
   go_wp2_with (first | ((with_reducible refine gc_ 64 rfl ?_); refine gl_ 9 Try.func64 #[.agg #[.int .i64 a0_0, .int .i64 a0_1, .int .i64 a0_2]] ?_; (with_reducible refine (impl_CostOk.calls a0_0 a0_1 a0_2 false _ A8.out).mono ?_); rintro e w24 ⟨rfl, hb⟩; refine ⟨_, rfl, ?_⟩; replace BK363 := bb_ BK363 hb; replace BK364 := bb_ BK364 hb; replace BK365 := bb_ BK365 hb; replace BK366 := bb_ BK366 hb; replace HB := Aside0.mk (below_step (bf_ HB) hb); (try clear hb); (try clear hb2); (try clear hk); (try clear hi)))
   go_meet
   case rel => exact ⟨_, (true), (by first | rfl | (simp; done) | (simp [*]; done)), H', ⟨by first | omega | exact Nat.le_refl _⟩, ⟨bk_ BK363⟩, ⟨bk_ BK364⟩, ⟨bk_ BK365⟩, ⟨bk_ BK366⟩, ⟨bf_ HB⟩⟩
 case rest =>
  clear HC3; (try clear c1); (try clear c2); (try clear p2); (try clear c6); (try clear c9); (try clear c11); (try clear c12); (try clear c13); (try clear c16); (try clear c17); (try clear c20); (try clear c21); (try clear c22); (try clear hcz14_0 hcz14_1 hcz14_2 hfz14_0 hfz14_1 hfz14_2); (try clear hcz18_0 hcz18_1 hcz18_2 hfz18_0 hfz18_1 hfz18_2); (try clear hcz23_0 hcz23_1 hcz23_2 hfz23_0 hfz23_1 hfz23_2)
  obtain ⟨kq, x15_2, rfl, HA, HJ2, BK363, BK364, BK365, BK366, HB⟩ := hcut
  cases kq with
  | zero => exact absurd HA.out (by simp [impl_Charge.j0])
  | succ kj2 =>
   have H := HA.out
   clear HA
   simp only [impl_Charge.j0] at H
   by_cases c25 : x15_2 = true
   ·subst c25
    have H1 : (some (0, 0, 0, 0, 0, 0)) = some (r1, r2, r3, r4, r5, r6) := by rw [if_pos rfl] at H; exact H
    clear H
    have H := H1
    clear H1
    simp only [Option.some.injEq, Prod.mk.injEq] at H
    obtain ⟨rfl, rfl, rfl, rfl, rfl, rfl⟩ := H
    have hnb26 := NB365_363.out; have hnc26 := NB363_365.out; have hnb27 := NB365_364.out; have hnc27 := NB364_365.out; have hnb28 := NB365_366.out; have hnc28 := NB366_365.out; obtain ⟨hcz29_0, hcz29_1, hcz29_2, hfz29_0, hfz29_1, hfz29_2⟩ := bz3_ BK365; have hnb30 := NB366_363.out; have hnc30 := NB363_366.out; have hnb31 := NB366_364.out; have hnc31 := NB364_366.out; obtain ⟨hcz32_0, hcz32_1, hcz32_2, hfz32_0, hfz32_1, hfz32_2⟩ := bz3_ BK366
    go_wp2
    refine bodyPost_ret (results_cc rfl _ _ gb365 gb366 46 46 #[.int .i64 0, .int .i64 0, .int .i64 0] #[.int .i64 0, .int .i64 0, .int .i64 0] (0, 0) (0, 0) _ _ rfl (by (with_reducible repeat (first | refine blk_drewN ?_ _ | refine blk_drew ?_ | refine blk_alloc ?_ _)); refine blk_far ?_ NB365_366.out _; (with_reducible repeat (first | refine blk_drewN ?_ _ | refine blk_drew ?_ | refine blk_alloc ?_ _)); refine blk_far ?_ NB365_366.out _; (with_reducible repeat (first | refine blk_drewN ?_ _ | refine blk_drew ?_ | refine blk_alloc ?_ _)); refine blk_far ?_ NB365_366.out _; (with_reducible repeat (first | refine blk_drewN ?_ _ | refine blk_drew ?_ | refine blk_alloc ?_ _)); refine blk_put (cs := #[.int .i64 0, .int .i64 0, .int .i64 0]) ?_ 2 _ rfl; (with_reducible repeat (first | refine blk_drewN ?_ _ | refine blk_drew ?_ | refine blk_alloc ?_ _)); refine blk_put (cs := #[.int .i64 0, .int .i64 0, .int .i64 0]) ?_ 1 _ rfl; (with_reducible repeat (first | refine blk_drewN ?_ _ | refine blk_drew ?_ | refine blk_alloc ?_ _)); refine blk_put (cs := #[.int .i64 0, .int .i64 0, .int .i64 0]) ?_ 0 _ rfl; exact bk_ BK365) Try.underlying46 rfl (by kernel_rfl) rfl (by (with_reducible repeat (first | refine blk_drewN ?_ _ | refine blk_drew ?_ | refine blk_alloc ?_ _)); refine blk_put (cs := #[.int .i64 0, .int .i64 0, .int .i64 0]) ?_ 2 _ rfl; (with_reducible repeat (first | refine blk_drewN ?_ _ | refine blk_drew ?_ | refine blk_alloc ?_ _)); refine blk_put (cs := #[.int .i64 0, .int .i64 0, .int .i64 0]) ?_ 1 _ rfl; (with_reducible repeat (first | refine blk_drewN ?_ _ | refine blk_drew ?_ | refine blk_alloc ?_ _)); refine blk_put (cs := #[.int .i64 0, .int .i64 0, .int .i64 0]) ?_ 0 _ rfl; (with_reducible repeat (first | refine blk_drewN ?_ _ | refine blk_drew ?_ | refine blk_alloc ?_ _)); refine blk_far ?_ NB366_365.out _; (with_reducible repeat (first | refine blk_drewN ?_ _ | refine blk_drew ?_ | refine blk_alloc ?_ _)); refine blk_far ?_ NB366_365.out _; (with_reducible repeat (first | refine blk_drewN ?_ _ | refine blk_drew ?_ | refine blk_alloc ?_ _)); refine blk_far ?_ NB366_365.out _; exact bk_ BK366) Try.underlying46 rfl (by kernel_rfl)) rfl ?_
    exact ⟨by first | rfl | (simp [errW_none, errW_some] <;> rfl) | (simp [*, errW_none, errW_some] <;> rfl), bf_ HB⟩
   ·replace c25 := Bool.eq_false_iff.mpr c25
    subst c25
    have H1 : ((impl_Vec_plus.f a0_0 a0_1 a0_2 a1_0 a1_1 a1_2).bind fun bt369 => ((impl_Vec_each_133.f bt369.1 bt369.2.1 bt369.2.2).bind fun bt373 => ((impl_Vec_minus.f bt369.1 bt369.2.1 bt369.2.2 bt373.1 bt373.2.1 bt373.2.2).bind fun bt377 => (some (bt373.1, bt373.2.1, bt373.2.2, bt377.1, bt377.2.1, bt377.2.2))))) = some (r1, r2, r3, r4, r5, r6) := by rw [if_neg (show ¬ (false = true) by decide)] at H; exact H
    clear H
    have H := H1
    clear H1
    replace H := Option.bind_eq_some_iff.mp H
    obtain ⟨⟨t369, t370, t371⟩, A330, H⟩ := H
    replace H : ((impl_Vec_each_133.f t369 t370 t371).bind fun bt373 => ((impl_Vec_minus.f t369 t370 t371 bt373.1 bt373.2.1 bt373.2.2).bind fun bt377 => (some (bt373.1, bt373.2.1, bt373.2.2, bt377.1, bt377.2.1, bt377.2.2)))) = some (r1, r2, r3, r4, r5, r6) := H
    have A33 := Aside0.mk A330
    clear A330
    replace H := Option.bind_eq_some_iff.mp H
    obtain ⟨⟨t373, t374, t375⟩, A340, H⟩ := H
    replace H : ((impl_Vec_minus.f t369 t370 t371 t373 t374 t375).bind fun bt377 => (some (t373, t374, t375, bt377.1, bt377.2.1, bt377.2.2))) = some (r1, r2, r3, r4, r5, r6) := H
    have A34 := Aside0.mk A340
    clear A340
    replace H := Option.bind_eq_some_iff.mp H
    obtain ⟨⟨t377, t378, t379⟩, A350, H⟩ := H
    replace H : (some (t373, t374, t375, t377, t378, t379)) = some (r1, r2, r3, r4, r5, r6) := H
    have A35 := Aside0.mk A350
    clear A350
    simp only [Option.some.injEq, Prod.mk.injEq] at H
    obtain ⟨rfl, rfl, rfl, rfl, rfl, rfl⟩ := H
    have hnb36 := NB363_364.out; have hnc36 := NB364_363.out; have hnb37 := NB363_365.out; have hnc37 := NB365_363.out; have hnb38 := NB363_366.out; have hnc38 := NB366_363.out; obtain ⟨hcz39_0, hcz39_1, hcz39_2, hfz39_0, hfz39_1, hfz39_2⟩ := bz3_ BK363; have hnb40 := NB364_365.out; have hnc40 := NB365_364.out; have hnb41 := NB364_366.out; have hnc41 := NB366_364.out; obtain ⟨hcz42_0, hcz42_1, hcz42_2, hfz42_0, hfz42_1, hfz42_2⟩ := bz3_ BK364
    try go_wp2_with (first | ((with_reducible refine gc_ 131 rfl ?_); refine gl_ 20 Try.func131 #[.agg #[.int .i64 a0_0, .int .i64 a0_1, .int .i64 a0_2], .agg #[.int .i64 a1_0, .int .i64 a1_1, .int .i64 a1_2]] ?_; (with_reducible refine (impl_Vec_plus.calls a0_0 a0_1 a0_2 a1_0 a1_1 a1_2 t369 t370 t371 _ A33.out).mono ?_); rintro e w43 ⟨rfl, hb⟩; refine ⟨_, rfl, ?_⟩; replace BK363 := bb_ BK363 hb; replace BK364 := bb_ BK364 hb; replace BK365 := bb_ BK365 hb; replace BK366 := bb_ BK366 hb; replace HB := Aside0.mk (below_step (bf_ HB) hb); (try clear hb); (try clear hb2); (try clear hk); (try clear hi)) | ((with_reducible refine gd_ 6 rfl ?_); refine bv_ 6 #[.int .i64 0, .int .i64 0, .int .i64 0] 46 ?_; intro gb372 hg w44 hbox hb; have BK372 := Aside0.mk (hbox); have GW372 := gw_ HB hg; have GE372 := gw_ HB hg; replace HB := Aside0.mk (below_step (bf_ HB) hb); have NB363_372 := nl_ BK363 hg; have NB372_363 := ng_ BK363 hg; replace BK363 := bb_ BK363 hb; have NB364_372 := nl_ BK364 hg; have NB372_364 := ng_ BK364 hg; replace BK364 := bb_ BK364 hb; have NB365_372 := nl_ BK365 hg; have NB372_365 := ng_ BK365 hg; replace BK365 := bb_ BK365 hb; have NB366_372 := nl_ BK366 hg; have NB372_366 := ng_ BK366 hg; replace BK366 := bb_ BK366 hb; clear hb hbox hg; have hnb45 := NB372_363.out; have hnc45 := NB363_372.out; have hnb46 := NB372_364.out; have hnc46 := NB364_372.out; have hnb47 := NB372_365.out; have hnc47 := NB365_372.out; have hnb48 := NB372_366.out; have hnc48 := NB366_372.out; obtain ⟨hcz49_0, hcz49_1, hcz49_2, hfz49_0, hfz49_1, hfz49_2⟩ := bz3_ BK372) | ((with_reducible refine gc_ 132 rfl ?_); refine gl_ 22 Try.func132 #[.agg #[.int .i64 t369, .int .i64 t370, .int .i64 t371], .func (.func 133) #[] #[]] ?_; (with_reducible refine (impl_Vec_each_133.calls t369 t370 t371 t373 t374 t375 _ A34.out).mono ?_); rintro e w50 ⟨rfl, hb⟩; refine ⟨_, rfl, ?_⟩; replace BK363 := bm_ BK363 hb; replace BK364 := bm_ BK364 hb; replace BK365 := bm_ BK365 hb; replace BK366 := bm_ BK366 hb; replace BK372 := Aside0.mk (blk_below (g := gb372) (o := .cells #[.int .i64 t369, .int .i64 t370, .int .i64 t371] 46 (0, 0)) (by (with_reducible repeat (first | refine blk_drewN ?_ _ | refine blk_drew ?_ | refine blk_alloc ?_ _)); refine blk_put (cs := #[.int .i64 t369, .int .i64 t370, .int .i64 0]) ?_ 2 _ rfl; (with_reducible repeat (first | refine blk_drewN ?_ _ | refine blk_drew ?_ | refine blk_alloc ?_ _)); refine blk_put (cs := #[.int .i64 t369, .int .i64 0, .int .i64 0]) ?_ 1 _ rfl; (with_reducible repeat (first | refine blk_drewN ?_ _ | refine blk_drew ?_ | refine blk_alloc ?_ _)); refine blk_put (cs := #[.int .i64 0, .int .i64 0, .int .i64 0]) ?_ 0 _ rfl; exact bk_ BK372) hb); replace HB := Aside0.mk (below_step (bf_ HB) hb); (try clear hb); (try clear hb2); (try clear hk); (try clear hi)) | ((with_reducible refine gd_ 7 rfl ?_); refine bv_ 7 #[.int .i64 0, .int .i64 0, .int .i64 0] 46 ?_; intro gb376 hg w51 hbox hb; have BK376 := Aside0.mk (hbox); have GW376 := gw_ HB hg; have GE376 := gw_ HB hg; replace HB := Aside0.mk (below_step (bf_ HB) hb); have NB363_376 := nl_ BK363 hg; have NB376_363 := ng_ BK363 hg; replace BK363 := bb_ BK363 hb; have NB364_376 := nl_ BK364 hg; have NB376_364 := ng_ BK364 hg; replace BK364 := bb_ BK364 hb; have NB365_376 := nl_ BK365 hg; have NB376_365 := ng_ BK365 hg; replace BK365 := bb_ BK365 hb; have NB366_376 := nl_ BK366 hg; have NB376_366 := ng_ BK366 hg; replace BK366 := bb_ BK366 hb; have NB372_376 := nl_ BK372 hg; have NB376_372 := ng_ BK372 hg; replace BK372 := bb_ BK372 hb; clear hb hbox hg; have hnb52 := NB376_363.out; have hnc52 := NB363_376.out; have hnb53 := NB376_364.out; have hnc53 := NB364_376.out; have hnb54 := NB376_365.out; have hnc54 := NB365_376.out; have hnb55 := NB376_366.out; have hnc55 := NB366_376.out; have hnb56 := NB376_372.out; have hnc56 := NB372_376.out; obtain ⟨hcz57_0, hcz57_1, hcz57_2, hfz57_0, hfz57_1, hfz57_2⟩ := bz3_ BK376))
    generalize hW_ : (((w51.setCell ⟨gb376, 0, none⟩ (.int .i64 t373)).setCell ⟨gb376, 1, none⟩ (.int .i64 t374)).setCell ⟨gb376, 2, none⟩ (.int .i64 t375)) = w58
    replace BK363 := fc3_ hW_ BK363 NB363_376
    replace BK364 := fc3_ hW_ BK364 NB364_376
    replace BK365 := fc3_ hW_ BK365 NB365_376
    replace BK366 := fc3_ hW_ BK366 NB366_376
    replace BK372 := fc3_ hW_ BK372 NB372_376
    replace BK376 : Aside0 (w58.heap[gb376]? = some (.cells #[.int .i64 t373, .int .i64 t374, .int .i64 t375] 46 (0, 0))) := pc3_ hW_ BK376
    replace HB : Aside0 (Below w.heap.size w w58) := ⟨by cases hW_; exact bf_ HB⟩
    clear hW_; replace BK363 := Aside0.mk (blk_drew BK363.out); replace BK364 := Aside0.mk (blk_drew BK364.out); replace BK365 := Aside0.mk (blk_drew BK365.out); replace BK366 := Aside0.mk (blk_drew BK366.out); replace BK372 := Aside0.mk (blk_drew BK372.out); replace BK376 := Aside0.mk (blk_drew BK376.out); replace HB := Aside0.mk (below_drew1 HB.out)
    refine start_ (n := 6) (S := fun w' => cw_ w' gb376 0 (.int .i64 t373) ∧ cw_ w' gb376 1 (.int .i64 t374) ∧ cw_ w' gb376 2 (.int .i64 t375) ∧ cw_ w' gb372 0 (.int .i64 t369) ∧ cw_ w' gb372 1 (.int .i64 t370) ∧ cw_ w' gb372 2 (.int .i64 t371)) (ds := []) (bs 6 0) (by kernel_rfl) rfl rfl ⟨bt_ BK376 0, bt_ BK376 1, bt_ BK376 2, bt_ BK372 0, bt_ BK372 1, bt_ BK372 2⟩ (fun hHeld => ?_)
    generalize w58.drew = w59 at BK363 BK364 BK365 BK366 BK372 BK376 HB hHeld ⊢
    refine tk0_ 0 23 (bs 6 1) hHeld ?_
    refine tk0_ 1 24 (bs 6 2) hHeld ?_
    refine tk0_ 2 25 (bs 6 3) hHeld ?_
    refine on0_ 3 (some 26) (bs 6 4) (fun K hK => ?_)
    refine gs_ Try.func135 #[.agg #[.int .i64 t369, .int .i64 t370, .int .i64 t371], .agg #[.int .i64 t373, .int .i64 t374, .int .i64 t375]] ?_
    with_reducible refine (impl_Vec_minus.calls t369 t370 t371 t373 t374 t375 t377 t378 t379 _ A35.out).mono ?_
    rintro e w60 ⟨rfl, hb⟩
    refine ⟨_, rfl, ?_⟩
    replace BK363 := bb_ BK363 hb; replace BK364 := bb_ BK364 hb; replace BK365 := bb_ BK365 hb; replace BK366 := bb_ BK366 hb; replace BK372 := bb_ BK372 hb; replace BK376 := bb_ BK376 hb; replace HB := Aside0.mk (below_step (bf_ HB) hb); (try clear hb); (try clear hb2); (try clear hk); (try clear hi)
    refine hK.out _ _ ⟨bt_ BK376 0, bt_ BK376 1, bt_ BK376 2, bt_ BK372 0, bt_ BK372 1, bt_ BK372 2⟩ (fun hHeld => ?_)
    clear hK K
    refine norm_ (a' := ?_) ?_ ?_
    rotate_left
    ·show Act.put _ (some 26) _ = _
     simp only [Act.put, ls0_, ls1_, ls2_, i64_w, i32_w]
     rfl
    refine on0_ 4 none (bs 6 5) (fun K hK => ?_)
    have hs61 := bc_ BK365 0 (.int .i64 0) rfl; have hfs61 := blk_frozen BK365.out 0; have hns61_0 := NB363_365.out; have hns61_1 := NB364_365.out; have hns61_3 := NB366_365.out; have hns61_4 := NB372_365.out; have hns61_5 := NB376_365.out; have hms61_0 := NB365_363.out; have hms61_1 := NB365_364.out; have hms61_3 := NB365_366.out; have hms61_4 := NB365_372.out; have hms61_5 := NB365_376.out; have hs62 := bc_ BK365 1 (.int .i64 0) rfl; have hfs62 := blk_frozen BK365.out 1; have hns62_0 := NB363_365.out; have hns62_1 := NB364_365.out; have hns62_3 := NB366_365.out; have hns62_4 := NB372_365.out; have hns62_5 := NB376_365.out; have hms62_0 := NB365_363.out; have hms62_1 := NB365_364.out; have hms62_3 := NB365_366.out; have hms62_4 := NB365_372.out; have hms62_5 := NB365_376.out; have hs63 := bc_ BK365 2 (.int .i64 0) rfl; have hfs63 := blk_frozen BK365.out 2; have hns63_0 := NB363_365.out; have hns63_1 := NB364_365.out; have hns63_3 := NB366_365.out; have hns63_4 := NB372_365.out; have hns63_5 := NB376_365.out; have hms63_0 := NB365_363.out; have hms63_1 := NB365_364.out; have hms63_3 := NB365_366.out; have hms63_4 := NB365_372.out; have hms63_5 := NB365_376.out
    refine skip_ (w1 := ?_) (by rfl) rfl ?_ ?_
    rotate_left
    ·go_simp
     rfl
    refine hK.out _ _ ⟨(cf3_ NB376_365.out hHeld.1), (cf3_ NB376_365.out hHeld.2.1), (cf3_ NB376_365.out hHeld.2.2.1), (cf3_ NB372_365.out hHeld.2.2.2.1), (cf3_ NB372_365.out hHeld.2.2.2.2.1), (cf3_ NB372_365.out hHeld.2.2.2.2.2)⟩ (fun hHeld => ?_)
    clear hK K
    refine on0_ 5 none (bs 6 6) (fun K hK => ?_)
    have hs64 := bc_ BK366 0 (.int .i64 0) rfl; have hfs64 := blk_frozen BK366.out 0; have hns64_0 := NB363_366.out; have hns64_1 := NB364_366.out; have hns64_2 := NB365_366.out; have hns64_4 := NB372_366.out; have hns64_5 := NB376_366.out; have hms64_0 := NB366_363.out; have hms64_1 := NB366_364.out; have hms64_2 := NB366_365.out; have hms64_4 := NB366_372.out; have hms64_5 := NB366_376.out; have hs65 := bc_ BK366 1 (.int .i64 0) rfl; have hfs65 := blk_frozen BK366.out 1; have hns65_0 := NB363_366.out; have hns65_1 := NB364_366.out; have hns65_2 := NB365_366.out; have hns65_4 := NB372_366.out; have hns65_5 := NB376_366.out; have hms65_0 := NB366_363.out; have hms65_1 := NB366_364.out; have hms65_2 := NB366_365.out; have hms65_4 := NB366_372.out; have hms65_5 := NB366_376.out; have hs66 := bc_ BK366 2 (.int .i64 0) rfl; have hfs66 := blk_frozen BK366.out 2; have hns66_0 := NB363_366.out; have hns66_1 := NB364_366.out; have hns66_2 := NB365_366.out; have hns66_4 := NB372_366.out; have hns66_5 := NB376_366.out; have hms66_0 := NB366_363.out; have hms66_1 := NB366_364.out; have hms66_2 := NB366_365.out; have hms66_4 := NB366_372.out; have hms66_5 := NB366_376.out
    refine skip_ (w1 := ?_) (by rfl) rfl ?_ ?_
    rotate_left
    ·go_simp
     rfl
    refine hK.out _ _ ⟨(cf3_ NB376_366.out hHeld.1), (cf3_ NB376_366.out hHeld.2.1), (cf3_ NB376_366.out hHeld.2.2.1), (cf3_ NB372_366.out hHeld.2.2.2.1), (cf3_ NB372_366.out hHeld.2.2.2.2.1), (cf3_ NB372_366.out hHeld.2.2.2.2.2)⟩ (fun hHeld => ?_)
    clear hK K
    refine done_ (by kernel_rfl) ?_
    try go_wp2
    refine bodyPost_ret (results_cc rfl _ _ gb365 gb366 46 46 #[.int .i64 t373, .int .i64 t374, .int .i64 t375] #[.int .i64 t377, .int .i64 t378, .int .i64 t379] (0, 0) (0, 0) _ _ rfl (by (with_reducible repeat (first | refine blk_drewN ?_ _ | refine blk_drew ?_ | refine blk_alloc ?_ _)); refine blk_far ?_ NB365_366.out _; (with_reducible repeat (first | refine blk_drewN ?_ _ | refine blk_drew ?_ | refine blk_alloc ?_ _)); refine blk_far ?_ NB365_366.out _; (with_reducible repeat (first | refine blk_drewN ?_ _ | refine blk_drew ?_ | refine blk_alloc ?_ _)); refine blk_far ?_ NB365_366.out _; (with_reducible repeat (first | refine blk_drewN ?_ _ | refine blk_drew ?_ | refine blk_alloc ?_ _)); refine blk_put (cs := #[.int .i64 t373, .int .i64 t374, .int .i64 0]) ?_ 2 _ rfl; (with_reducible repeat (first | refine blk_drewN ?_ _ | refine blk_drew ?_ | refine blk_alloc ?_ _)); refine blk_put (cs := #[.int .i64 t373, .int .i64 0, .int .i64 0]) ?_ 1 _ rfl; (with_reducible repeat (first | refine blk_drewN ?_ _ | refine blk_drew ?_ | refine blk_alloc ?_ _)); refine blk_put (cs := #[.int .i64 0, .int .i64 0, .int .i64 0]) ?_ 0 _ rfl; exact bk_ BK365) Try.underlying46 rfl (by kernel_rfl) rfl (by (with_reducible repeat (first | refine blk_drewN ?_ _ | refine blk_drew ?_ | refine blk_alloc ?_ _)); refine blk_put (cs := #[.int .i64 t377, .int .i64 t378, .int .i64 0]) ?_ 2 _ rfl; (with_reducible repeat (first | refine blk_drewN ?_ _ | refine blk_drew ?_ | refine blk_alloc ?_ _)); refine blk_put (cs := #[.int .i64 t377, .int .i64 0, .int .i64 0]) ?_ 1 _ rfl; (with_reducible repeat (first | refine blk_drewN ?_ _ | refine blk_drew ?_ | refine blk_alloc ?_ _)); refine blk_put (cs := #[.int .i64 0, .int .i64 0, .int .i64 0]) ?_ 0 _ rfl; (with_reducible repeat (first | refine blk_drewN ?_ _ | refine blk_drew ?_ | refine blk_alloc ?_ _)); refine blk_far ?_ NB366_365.out _; (with_reducible repeat (first | refine blk_drewN ?_ _ | refine blk_drew ?_ | refine blk_alloc ?_ _)); refine blk_far ?_ NB366_365.out _; (with_reducible repeat (first | refine blk_drewN ?_ _ | refine blk_drew ?_ | refine blk_alloc ?_ _)); refine blk_far ?_ NB366_365.out _; exact bk_ BK366) Try.underlying46 rfl (by kernel_rfl)) rfl ?_
    exact ⟨by first | rfl | (simp [errW_none, errW_some] <;> rfl) | (simp [*, errW_none, errW_some] <;> rfl), bf_ HB⟩

end Go.Proofs.Ytlafobfjbkhioaa.PFnCarryBound
