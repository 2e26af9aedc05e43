-- printed by a program of this session (wip/printx) out of the translation; Lean checks it
import Derived.Test.YtljhaoiopokmfaaVFnExactFairServe
import Derived.Test.YtljhaoiopokmfaaPFnExactFairServex0
import Derived.Test.YtljhaoiopokmfaaPFnExactFairServex2
import Derived.Test.YtljhaoiopokmfaaPFnExactFairServex3
import Derived.Test.YtljhaoiopokmfaaPFnExactFairServex5
namespace Go.Proofs.Ytljhaoiopokmfaa.PFnExactFairServe
open Go.RowKit Go.Proofs.YtljhaoiopokmfaaW.PrintWords Go.Proofs.YtljhaoiopokmfaaW.PrintLast Go.Proofs.YtljhaoiopokmfaaW.PrintMore
attribute [local go_sem] max2_int min2_int max_two min_two max_three min_three max_four min_four   -- for this text's walks alone
set_option linter.unusedVariables false
set_option linter.unusedSimpArgs false

/-! ### impl_Finish_1: function 105 -/
def impl_Finish_1.f (a0 : Int) (a1 : Int) (a2 : Int) : Option (Int) := (impl_Stride.f a2).bind fun t218 => (some (wrap64 (a0 + (wrap64 (a1 * t218)))))
set_option maxHeartbeats 8000000 in
set_option maxRecDepth 100000 in
theorem impl_Finish_1.calls (a0 : Int) (a1 : Int) (a2 : Int) (r : Int) (w : World) (gb217 : Nat) (hb_gb217 : w.heap[gb217]? = some (.cells #[.int .i64 a2] 3 (0, 0))) (h : impl_Finish_1.f a0 a1 a2 = some r) :
  Calls Try.prog 105 #[.int .i64 a0, .int .i64 a1, .pointer (some ⟨gb217, 0, none⟩)] w fun e w' => e = .returned (.int .i64 r) ∧ Below w.heap.size w w' := by
 have HB := Aside0.mk (Below.refl w.heap.size w)
 have H : ((impl_Stride.f a2).bind fun t218 => (some (wrap64 (a0 + (wrap64 (a1 * t218)))))) = some r := h
 clear h
 replace H := Option.bind_eq_some_iff.mp H
 obtain ⟨t218, A40, H⟩ := H
 replace H : (some (wrap64 (a0 + (wrap64 (a1 * t218))))) = some r := H
 have A4 := Aside0.mk A40
 clear A40
 obtain rfl := Option.some.inj H
 have BK217 := Aside0.mk hb_gb217
 have hcz6_0 := bc_ BK217 0 (.int .i64 a2) rfl
 have hfz6_0 := blk_frozen BK217.out 0
 go_enter Try.func105, Try.ntmps105
 go_wp2_with (first | ((with_reducible refine gc_ 92 rfl ?_); refine gl_ 9 Try.func92 #[.int .i64 a2] ?_; (with_reducible refine (impl_Stride.calls a2 t218 _ A4.out).mono ?_); rintro e w' ⟨rfl, ⟨nd, rfl⟩⟩; refine ⟨_, rfl, ?_⟩))
 go_ret
 exact ⟨by first | rfl | (simp [errW_none, errW_some] <;> rfl) | (simp [*, errW_none, errW_some] <;> rfl), bf_ HB⟩

def impl_both_105.f (a0_0 : Int) (a0_1 : Int) (a0_2 : Int) (a1_0 : Int) (a1_1 : Int) (a1_2 : Int) (c0_0 : Int) (dm : Int) : Option (Int × Int × Int) := (impl_Finish_1.f a0_0 a1_0 c0_0).bind fun r1 => (impl_Finish_1.f a0_1 a1_1 c0_0).bind fun r2 => (impl_Finish_1.f a0_2 a1_2 c0_0).bind fun r3 => some (r1, r2, r3)
theorem impl_both_105.calls (a0_0 : Int) (a0_1 : Int) (a0_2 : Int) (a1_0 : Int) (a1_1 : Int) (a1_2 : Int) (c0_0 : Int) (dm : Int) (r1 r2 r3 : Int) (w : World) (g0 : Nat) (hb0 : w.heap[g0]? = some (.cells #[.int .i64 c0_0] 3 (0, 0))) (h : impl_both_105.f a0_0 a0_1 a0_2 a1_0 a1_1 a1_2 c0_0 dm = some (r1, r2, r3)) :
  Calls Try.prog 99 #[.agg #[.int .i64 a0_0, .int .i64 a0_1, .int .i64 a0_2], .agg #[.int .i64 a1_0, .int .i64 a1_1, .int .i64 a1_2], .func (.func 105) #[] #[.pointer (some ⟨g0, 0, none⟩)]] w fun e w' => e = .returned (.agg #[.int .i64 r1, .int .i64 r2, .int .i64 r3]) ∧ Below w.heap.size w w' := by
 unfold impl_both_105.f at h
 obtain ⟨q1, h1, h⟩ := Option.bind_eq_some_iff.mp h
 obtain ⟨q2, h2, h⟩ := Option.bind_eq_some_iff.mp h
 obtain ⟨q3, h3, h⟩ := Option.bind_eq_some_iff.mp h
 simp only [Option.some.injEq, Prod.mk.injEq] at h
 obtain ⟨e1, e2, e3⟩ := h
 subst e1 e2 e3
 exact impl_both.calls a0_0 a0_1 a0_2 a1_0 a1_1 a1_2 q1 q2 q3 105 Try.f105 #[.pointer (some ⟨g0, 0, none⟩)] Try.func105 (by kernel_rfl) rfl w (fun W hW => impl_Finish_1.calls a0_0 a1_0 c0_0 q1 W g0 (blk_below (g := g0) (o := .cells #[.int .i64 c0_0] 3 (0, 0)) hb0 hW) h1) (fun W hW => impl_Finish_1.calls a0_1 a1_1 c0_0 q2 W g0 (blk_below (g := g0) (o := .cells #[.int .i64 c0_0] 3 (0, 0)) hb0 hW) h2) (fun W hW => impl_Finish_1.calls a0_2 a1_2 c0_0 q3 W g0 (blk_below (g := g0) (o := .cells #[.int .i64 c0_0] 3 (0, 0)) hb0 hW) h3)

/-! ### impl_Finish: function 75 -/
def impl_Finish.j0 : Nat → Int → Bool → Int → Int → Int → Int → Int → Int → Option (Int × Int × Int × Bool)
  | 0, _, _, _, _, _, _, _, _ => none
  | k + 1, x2, x21, x220000, x220001, x220002, x221000, x221001, x221002 => if x21 = true then (some (0, 0, 0, false)) else ((impl_both_105.f x220000 x220001 x220002 x221000 x221001 x221002 x2 7770105).bind fun bt226 => ((impl_TagOk.f bt226.1 bt226.2.1 bt226.2.2).bind fun t230 => (if t230 = true then (some (bt226.1, bt226.2.1, bt226.2.2, true)) else (some (0, 0, 0, false)))))
def impl_Finish.f (k : Nat) (a0_0 : Int) (a0_1 : Int) (a0_2 : Int) (a1_0 : Int) (a1_1 : Int) (a1_2 : Int) (a2 : Int) : Option (Int × Int × Int × Bool) := (impl_TagOk.f a0_0 a0_1 a0_2).bind fun t223 => (if t223 = true then ((impl_ChargeOk.f a1_0 a1_1 a1_2).bind fun t224 => (if t224 = true then ((impl_isWeight.f a2).bind fun t225 => (impl_Finish.j0 k a2 (!t225) a0_0 a0_1 a0_2 a1_0 a1_1 a1_2)) else (impl_Finish.j0 k a2 true a0_0 a0_1 a0_2 a1_0 a1_1 a1_2))) else (impl_Finish.j0 k a2 true a0_0 a0_1 a0_2 a1_0 a1_1 a1_2))
theorem impl_Finish.mono_l : ∀ k, (∀ y0 y1 y2 y3 y4 y5 y6 y7, LeO (impl_Finish.j0 k y0 y1 y2 y3 y4 y5 y6 y7) (impl_Finish.j0 (k + 1) y0 y1 y2 y3 y4 y5 y6 y7))
 | 0 => fun _ _ _ _ _ _ _ _ r h => by simp [impl_Finish.j0] at h
 | k + 1 => by
  have ih0 := impl_Finish.mono_l k
  ·intro y0 y1 y2 y3 y4 y5 y6 y7
   unfold impl_Finish.j0
   repeat' first
   | (with_reducible exact ih0 _ _ _ _ _ _ _ _)
   | (with_reducible exact LeO.refl _)
   | (with_reducible exact LeO.none _)
   | (with_reducible refine LeO.ite ?_ ?_)
   | (with_reducible refine LeO.bind ?_ (fun _ => ?_))
   | exact ih0 _ _ _ _ _ _ _ _
   | exact LeO.none _
   | refine LeO.ite ?_ ?_
   | refine LeO.bind ?_ (fun _ => ?_)
theorem impl_Finish.mono : ∀ a0 a1 a2 a3 a4 a5 a6 k, LeO (impl_Finish.f k a0 a1 a2 a3 a4 a5 a6) (impl_Finish.f (k + 1) a0 a1 a2 a3 a4 a5 a6) := by
 intro a0 a1 a2 a3 a4 a5 a6 k
 have ih0 := impl_Finish.mono_l k
 unfold impl_Finish.f
 repeat' first
   | (with_reducible exact ih0 _ _ _ _ _ _ _ _)
   | (with_reducible exact LeO.refl _)
   | (with_reducible exact LeO.none _)
   | (with_reducible refine LeO.ite ?_ ?_)
   | (with_reducible refine LeO.bind ?_ (fun _ => ?_))
   | exact ih0 _ _ _ _ _ _ _ _
   | exact LeO.none _
   | refine LeO.ite ?_ ?_
   | refine LeO.bind ?_ (fun _ => ?_)
set_option maxHeartbeats 8000000 in
set_option maxRecDepth 100000 in
theorem impl_Finish.calls (k : Nat) (a0_0 : Int) (a0_1 : Int) (a0_2 : Int) (a1_0 : Int) (a1_1 : Int) (a1_2 : Int) (a2 : Int) (r1 : Int) (r2 : Int) (r3 : Int) (r4 : Bool) (w : World) (h : impl_Finish.f k a0_0 a0_1 a0_2 a1_0 a1_1 a1_2 a2 = some (r1, r2, r3, r4)) :
  Calls Try.prog 75 #[.agg #[.int .i64 a0_0, .int .i64 a0_1, .int .i64 a0_2], .agg #[.int .i64 a1_0, .int .i64 a1_1, .int .i64 a1_2], .int .i64 a2] w fun e w' => e = .returned (.tuple #[.agg #[.int .i64 r1, .int .i64 r2, .int .i64 r3], .bool r4]) ∧ Below w.heap.size w w' := by
 have hu29 := Try.underlying29; have HB := Aside0.mk (Below.refl w.heap.size w)
 have H : ((impl_TagOk.f a0_0 a0_1 a0_2).bind fun t223 => (if t223 = true then ((impl_ChargeOk.f a1_0 a1_1 a1_2).bind fun t224 => (if t224 = true then ((impl_isWeight.f a2).bind fun t225 => (impl_Finish.j0 k a2 (!t225) a0_0 a0_1 a0_2 a1_0 a1_1 a1_2)) else (impl_Finish.j0 k a2 true a0_0 a0_1 a0_2 a1_0 a1_1 a1_2))) else (impl_Finish.j0 k a2 true a0_0 a0_1 a0_2 a1_0 a1_1 a1_2))) = some (r1, r2, r3, r4) := h
 clear h
 have HC4 := Aside0.mk H
 clear H
 go_enter Try.func75, Try.ntmps75
 go_upto_region 1 with (first | ((with_reducible refine gd_ 3 rfl ?_); refine bv_ 3 #[.int .i64 a0_0, .int .i64 a0_1, .int .i64 a0_2] 29 ?_; intro gb219 hg w5 hbox hb; have BK219 := Aside0.mk (hbox); have GW219 := gw_ HB hg; have GE219 := gw_ HB hg; replace HB := Aside0.mk (below_step (be_ HB) hb); clear hb hbox hg) | ((with_reducible refine gd_ 4 rfl ?_); refine bv_ 4 #[.int .i64 a1_0, .int .i64 a1_1, .int .i64 a1_2] 29 ?_; intro gb220 hg w6 hbox hb; have BK220 := Aside0.mk (hbox); have GW220 := gw_ HB hg; have GE220 := gw_ HB hg; replace HB := Aside0.mk (below_step (bf_ HB) hb); have NB219_220 := nl_ BK219 hg; have NB220_219 := ng_ BK219 hg; replace BK219 := bb_ BK219 hb; clear hb hbox hg) | ((with_reducible refine gd_ 5 rfl ?_); refine bv_ 5 #[.int .i64 a2] 3 ?_; intro gb221 hg w7 hbox hb; have BK221 := Aside0.mk (hbox); have GW221 := gw_ HB hg; have GE221 := gw_ HB hg; replace HB := Aside0.mk (below_step (bf_ HB) hb); have NB219_221 := nl_ BK219 hg; have NB221_219 := ng_ BK219 hg; replace BK219 := bb_ BK219 hb; have NB220_221 := nl_ BK220 hg; have NB221_220 := ng_ BK220 hg; replace BK220 := bb_ BK220 hb; clear hb hbox hg) | ((with_reducible refine gd_ 6 rfl ?_); refine bv_ 6 #[.int .i64 0, .int .i64 0, .int .i64 0] 29 ?_; intro gb222 hg w8 hbox hb; have BK222 := Aside0.mk (hbox); have GW222 := gw_ HB hg; have GE222 := gw_ HB hg; replace HB := Aside0.mk (below_step (bf_ HB) hb); have NB219_222 := nl_ BK219 hg; have NB222_219 := ng_ BK219 hg; replace BK219 := bb_ BK219 hb; have NB220_222 := nl_ BK220 hg; have NB222_220 := ng_ BK220 hg; replace BK220 := bb_ BK220 hb; have NB221_222 := nl_ BK221 hg; have NB222_221 := ng_ BK221 hg; replace BK221 := bb_ BK221 hb; clear hb hbox hg))
 (try simp only [Act.put, ls0_, ls1_, ls2_])
 go_cut [21] (fun v21 wc => ∃ (kq : Nat) (x21_3 : Bool), v21 = .bool x21_3 ∧ Aside0 (impl_Finish.j0 kq a2 x21_3 a0_0 a0_1 a0_2 a1_0 a1_1 a1_2 = some (r1, r2, r3, r4)) ∧ Aside0 (kq ≤ k) ∧ Aside0 (wc.heap[gb219]? = some (.cells #[.int .i64 a0_0, .int .i64 a0_1, .int .i64 a0_2] 29 (0, 0))) ∧ Aside0 (wc.heap[gb220]? = some (.cells #[.int .i64 a1_0, .int .i64 a1_1, .int .i64 a1_2] 29 (0, 0))) ∧ Aside0 (wc.heap[gb221]? = some (.cells #[.int .i64 a2] 3 (0, 0))) ∧ Aside0 (wc.heap[gb222]? = some (.cells #[.int .i64 0, .int .i64 0, .int .i64 0] 29 (0, 0))) ∧ Aside0 (Below w.heap.size w wc))
 case first =>
  have H := HC4.out
  clear HC4
  replace H := Option.bind_eq_some_iff.mp H
  obtain ⟨t223, A90, H⟩ := H
  replace H : (if t223 = true then ((impl_ChargeOk.f a1_0 a1_1 a1_2).bind fun t224 => (if t224 = true then ((impl_isWeight.f a2).bind fun t225 => (impl_Finish.j0 k a2 (!t225) a0_0 a0_1 a0_2 a1_0 a1_1 a1_2)) else (impl_Finish.j0 k a2 true a0_0 a0_1 a0_2 a1_0 a1_1 a1_2))) else (impl_Finish.j0 k a2 true a0_0 a0_1 a0_2 a1_0 a1_1 a1_2)) = some (r1, r2, r3, r4) := H
  have A9 := Aside0.mk A90
  clear A90
  by_cases c10 : t223 = true
  ·subst c10
   have H1 : ((impl_ChargeOk.f a1_0 a1_1 a1_2).bind fun t224 => (if t224 = true then ((impl_isWeight.f a2).bind fun t225 => (impl_Finish.j0 k a2 (!t225) a0_0 a0_1 a0_2 a1_0 a1_1 a1_2)) else (impl_Finish.j0 k a2 true a0_0 a0_1 a0_2 a1_0 a1_1 a1_2))) = some (r1, r2, r3, r4) := by rw [if_pos rfl] at H; exact H
   clear H
   have H := H1
   clear H1
   replace H := Option.bind_eq_some_iff.mp H
   obtain ⟨t224, A110, H⟩ := H
   replace H : (if t224 = true then ((impl_isWeight.f a2).bind fun t225 => (impl_Finish.j0 k a2 (!t225) a0_0 a0_1 a0_2 a1_0 a1_1 a1_2)) else (impl_Finish.j0 k a2 true a0_0 a0_1 a0_2 a1_0 a1_1 a1_2)) = some (r1, r2, r3, r4) := H
   have A11 := Aside0.mk A110
   clear A110
   by_cases c12 : t224 = true
   ·subst c12
    have H1 : ((impl_isWeight.f a2).bind fun t225 => (impl_Finish.j0 k a2 (!t225) a0_0 a0_1 a0_2 a1_0 a1_1 a1_2)) = some (r1, r2, r3, r4) := by rw [if_pos rfl] at H; exact H
    clear H
    have H := H1
    clear H1
    replace H := Option.bind_eq_some_iff.mp H
    obtain ⟨t225, A130, H⟩ := H
    replace H : (impl_Finish.j0 k a2 (!t225) a0_0 a0_1 a0_2 a1_0 a1_1 a1_2) = some (r1, r2, r3, r4) := H
    have A13 := Aside0.mk A130
    clear A130
    have H' := Aside0.mk H
    clear H; have hnb14 := NB219_220.out; have hnc14 := NB220_219.out; have hnb15 := NB219_221.out; have hnc15 := NB221_219.out; have hnb16 := NB219_222.out; have hnc16 := NB222_219.out; obtain ⟨hcz17_0, hcz17_1, hcz17_2, hfz17_0, hfz17_1, hfz17_2⟩ := bz3_ BK219
    go_wp2_with (first | ((with_reducible refine gc_ 89 rfl ?_); refine gl_ 10 Try.func89 #[.agg #[.int .i64 a0_0, .int .i64 a0_1, .int .i64 a0_2]] ?_; (with_reducible refine (impl_TagOk.calls a0_0 a0_1 a0_2 true _ A9.out).mono ?_); rintro e w18 ⟨rfl, hb⟩; refine ⟨_, rfl, ?_⟩; replace BK219 := bb_ BK219 hb; replace BK220 := bb_ BK220 hb; replace BK221 := bb_ BK221 hb; replace BK222 := bb_ BK222 hb; replace HB := Aside0.mk (below_step (bf_ HB) hb); (try clear hb); (try clear hb2); (try clear hk); (try clear hi); have hnb19 := NB220_221.out; have hnc19 := NB221_220.out; have hnb20 := NB220_222.out; have hnc20 := NB222_220.out; obtain ⟨hcz21_0, hcz21_1, hcz21_2, hfz21_0, hfz21_1, hfz21_2⟩ := bz3_ BK220) | (go_at_call 74; (with_reducible refine (impl_ChargeOk.calls a1_0 a1_1 a1_2 true _ A11.out).mono ?_); rintro e w22 ⟨rfl, hb⟩; replace BK219 := bb_ BK219 hb; replace BK220 := bb_ BK220 hb; replace BK221 := bb_ BK221 hb; replace BK222 := bb_ BK222 hb; replace HB := Aside0.mk (below_step (bf_ HB) hb); (try clear hb); (try clear hb2); (try clear hk); (try clear hi); have hnb23 := NB221_222.out; have hnc23 := NB222_221.out; obtain ⟨hcz24_0, hfz24_0⟩ := bz1_ BK221) | (go_at_call 84; (with_reducible refine (impl_isWeight.calls a2 t225 _ A13.out).mono ?_); rintro e w' ⟨rfl, ⟨nd, rfl⟩⟩))
    go_meet
    case rel => exact ⟨_, (!t225), (by first | rfl | (simp; done) | (simp [*]; done)), H', ⟨by first | omega | exact Nat.le_refl _⟩, ⟨bk_ BK219⟩, ⟨bk_ BK220⟩, ⟨bk_ BK221⟩, ⟨bk_ BK222⟩, ⟨bf_ HB⟩⟩
   ·replace c12 := Bool.eq_false_iff.mpr c12
    subst c12
    have H1 : (impl_Finish.j0 k a2 true a0_0 a0_1 a0_2 a1_0 a1_1 a1_2) = some (r1, r2, r3, r4) := by rw [if_neg (show ¬ (false = true) by decide)] at H; exact H
    clear H
    have H := H1
    clear H1
    have H' := Aside0.mk H
    clear H; have hnb25 := NB219_220.out; have hnc25 := NB220_219.out; have hnb26 := NB219_221.out; have hnc26 := NB221_219.out; have hnb27 := NB219_222.out; have hnc27 := NB222_219.out; obtain ⟨hcz28_0, hcz28_1, hcz28_2, hfz28_0, hfz28_1, hfz28_2⟩ := bz3_ BK219
    go_wp2_with (first | ((with_reducible refine gc_ 89 rfl ?_); refine gl_ 10 Try.func89 #[.agg #[.int .i64 a0_0, .int .i64 a0_1, .int .i64 a0_2]] ?_; (with_reducible refine (impl_TagOk.calls a0_0 a0_1 a0_2 true _ A9.out).mono ?_); rintro e w29 ⟨rfl, hb⟩; refine ⟨_, rfl, ?_⟩; replace BK219 := bb_ BK219 hb; replace BK220 := bb_ BK220 hb; replace BK221 := bb_ BK221 hb; replace BK222 := bb_ BK222 hb; replace HB := Aside0.mk (below_step (bf_ HB) hb); (try clear hb); (try clear hb2); (try clear hk); (try clear hi); have hnb30 := NB220_221.out; have hnc30 := NB221_220.out; have hnb31 := NB220_222.out; have hnc31 := NB222_220.out; obtain ⟨hcz32_0, hcz32_1, hcz32_2, hfz32_0, hfz32_1, hfz32_2⟩ := bz3_ BK220) | (go_at_call 74; (with_reducible refine (impl_ChargeOk.calls a1_0 a1_1 a1_2 false _ A11.out).mono ?_); rintro e w33 ⟨rfl, hb⟩; replace BK219 := bb_ BK219 hb; replace BK220 := bb_ BK220 hb; replace BK221 := bb_ BK221 hb; replace BK222 := bb_ BK222 hb; replace HB := Aside0.mk (below_step (bf_ HB) hb); (try clear hb); (try clear hb2); (try clear hk); (try clear hi)))
    go_meet
    case rel => exact ⟨_, (true), (by first | rfl | (simp; done) | (simp [*]; done)), H', ⟨by first | omega | exact Nat.le_refl _⟩, ⟨bk_ BK219⟩, ⟨bk_ BK220⟩, ⟨bk_ BK221⟩, ⟨bk_ BK222⟩, ⟨bf_ HB⟩⟩
  ·replace c10 := Bool.eq_false_iff.mpr c10
   subst c10
   have H1 : (impl_Finish.j0 k a2 true a0_0 a0_1 a0_2 a1_0 a1_1 a1_2) = some (r1, r2, r3, r4) := by rw [if_neg (show ¬ (false = true) by decide)] at H; exact H
   clear H
   have H := H1
   clear H1
   have H' := Aside0.mk H
   clear H; have hnb34 := NB219_220.out; have hnc34 := NB220_219.out; have hnb35 := NB219_221.out; have hnc35 := NB221_219.out; have hnb36 := NB219_222.out; have hnc36 := NB222_219.out; obtain ⟨hcz37_0, hcz37_1, hcz37_2, hfz37_0, hfz37_1, hfz37_2⟩ := bz3_ BK219
   go_wp2_with (first | ((with_reducible refine gc_ 89 rfl ?_); refine gl_ 10 Try.func89 #[.agg #[.int .i64 a0_0, .int .i64 a0_1, .int .i64 a0_2]] ?_; (with_reducible refine (impl_TagOk.calls a0_0 a0_1 a0_2 false _ A9.out).mono ?_); rintro e w38 ⟨rfl, hb⟩; refine ⟨_, rfl, ?_⟩; replace BK219 := bb_ BK219 hb; replace BK220 := bb_ BK220 hb; replace BK221 := bb_ BK221 hb; replace BK222 := bb_ BK222 hb; replace HB := Aside0.mk (below_step (bf_ HB) hb); (try clear hb); (try clear hb2); (try clear hk); (try clear hi)))
   go_meet
   case rel => exact ⟨_, (true), (by first | rfl | (simp; done) | (simp [*]; done)), H', ⟨by first | omega | exact Nat.le_refl _⟩, ⟨bk_ BK219⟩, ⟨bk_ BK220⟩, ⟨bk_ BK221⟩, ⟨bk_ BK222⟩, ⟨bf_ HB⟩⟩
 case rest =>
  clear HC4; (try clear c1); (try clear c2); (try clear p2); (try clear c3); (try clear c7); (try clear c8); (try clear c10); (try clear c12); (try clear c14); (try clear c15); (try clear c16); (try clear c19); (try clear c20); (try clear c23); (try clear c25); (try clear c26); (try clear c27); (try clear c30); (try clear c31); (try clear c34); (try clear c35); (try clear c36); (try clear hcz17_0 hcz17_1 hcz17_2 hfz17_0 hfz17_1 hfz17_2); (try clear hcz21_0 hcz21_1 hcz21_2 hfz21_0 hfz21_1 hfz21_2); (try clear hcz24_0 hfz24_0); (try clear hcz28_0 hcz28_1 hcz28_2 hfz28_0 hfz28_1 hfz28_2); (try clear hcz32_0 hcz32_1 hcz32_2 hfz32_0 hfz32_1 hfz32_2); (try clear hcz37_0 hcz37_1 hcz37_2 hfz37_0 hfz37_1 hfz37_2)
  obtain ⟨kq, x21_3, rfl, HA, HJ3, BK219, BK220, BK221, BK222, HB⟩ := hcut
  cases kq with
  | zero => exact absurd HA.out (by simp [impl_Finish.j0])
  | succ kj3 =>
   have H := HA.out
   clear HA
   simp only [impl_Finish.j0] at H
   by_cases c39 : x21_3 = true
   ·subst c39
    have H1 : (some (0, 0, 0, false)) = some (r1, r2, r3, r4) := by rw [if_pos rfl] at H; exact H
    clear H
    have H := H1
    clear H1
    simp only [Option.some.injEq, Prod.mk.injEq] at H
    obtain ⟨rfl, rfl, rfl, rfl⟩ := H
    have hnb40 := NB222_219.out; have hnc40 := NB219_222.out; have hnb41 := NB222_220.out; have hnc41 := NB220_222.out; have hnb42 := NB222_221.out; have hnc42 := NB221_222.out; obtain ⟨hcz43_0, hcz43_1, hcz43_2, hfz43_0, hfz43_1, hfz43_2⟩ := bz3_ BK222
    go_wp2
    refine bodyPost_ret (results_ct rfl _ _ gb222 29 #[.int .i64 0, .int .i64 0, .int .i64 0] (0, 0) _ rfl (by (with_reducible repeat (first | refine blk_drewN ?_ _ | refine blk_drew ?_ | refine blk_alloc ?_ _)); refine blk_put (cs := #[.int .i64 0, .int .i64 0, .int .i64 0]) ?_ 2 _ rfl; (with_reducible repeat (first | refine blk_drewN ?_ _ | refine blk_drew ?_ | refine blk_alloc ?_ _)); refine blk_put (cs := #[.int .i64 0, .int .i64 0, .int .i64 0]) ?_ 1 _ rfl; (with_reducible repeat (first | refine blk_drewN ?_ _ | refine blk_drew ?_ | refine blk_alloc ?_ _)); refine blk_put (cs := #[.int .i64 0, .int .i64 0, .int .i64 0]) ?_ 0 _ rfl; exact bk_ BK222) Try.underlying29 rfl (by kernel_rfl)) rfl ?_
    exact ⟨by first | rfl | (simp [errW_none, errW_some] <;> rfl) | (simp [*, errW_none, errW_some] <;> rfl), bf_ HB⟩
   ·replace c39 := Bool.eq_false_iff.mpr c39
    subst c39
    have H1 : ((impl_both_105.f a0_0 a0_1 a0_2 a1_0 a1_1 a1_2 a2 7770105).bind fun bt226 => ((impl_TagOk.f bt226.1 bt226.2.1 bt226.2.2).bind fun t230 => (if t230 = true then (some (bt226.1, bt226.2.1, bt226.2.2, true)) else (some (0, 0, 0, false))))) = some (r1, r2, r3, r4) := by rw [if_neg (show ¬ (false = true) by decide)] at H; exact H
    clear H
    have H := H1
    clear H1
    replace H := Option.bind_eq_some_iff.mp H
    obtain ⟨⟨t226, t227, t228⟩, A440, H⟩ := H
    replace H : ((impl_TagOk.f t226 t227 t228).bind fun t230 => (if t230 = true then (some (t226, t227, t228, true)) else (some (0, 0, 0, false)))) = some (r1, r2, r3, r4) := H
    have A44 := Aside0.mk A440
    clear A440
    replace H := Option.bind_eq_some_iff.mp H
    obtain ⟨t230, A450, H⟩ := H
    replace H : (if t230 = true then (some (t226, t227, t228, true)) else (some (0, 0, 0, false))) = some (r1, r2, r3, r4) := H
    have A45 := Aside0.mk A450
    clear A450
    by_cases c46 : t230 = true
    ·subst c46
     have H1 : (some (t226, t227, t228, true)) = some (r1, r2, r3, r4) := by rw [if_pos rfl] at H; exact H
     clear H
     have H := H1
     clear H1
     simp only [Option.some.injEq, Prod.mk.injEq] at H
     obtain ⟨rfl, rfl, rfl, rfl⟩ := H
     have hnb47 := NB219_220.out; have hnc47 := NB220_219.out; have hnb48 := NB219_221.out; have hnc48 := NB221_219.out; have hnb49 := NB219_222.out; have hnc49 := NB222_219.out; obtain ⟨hcz50_0, hcz50_1, hcz50_2, hfz50_0, hfz50_1, hfz50_2⟩ := bz3_ BK219; have hnb51 := NB220_221.out; have hnc51 := NB221_220.out; have hnb52 := NB220_222.out; have hnc52 := NB222_220.out; obtain ⟨hcz53_0, hcz53_1, hcz53_2, hfz53_0, hfz53_1, hfz53_2⟩ := bz3_ BK220
     go_wp2_with (first | ((with_reducible refine gc_ 99 rfl ?_); refine gl_ 26 Try.func99 #[.agg #[.int .i64 a0_0, .int .i64 a0_1, .int .i64 a0_2], .agg #[.int .i64 a1_0, .int .i64 a1_1, .int .i64 a1_2], .func (.func 105) #[] #[.pointer (some ⟨gb221, 0, none⟩)]] ?_; (with_reducible refine (impl_both_105.calls a0_0 a0_1 a0_2 a1_0 a1_1 a1_2 a2 7770105 t226 t227 t228 _ gb221 (bk_ BK221) A44.out).mono ?_); rintro e w54 ⟨rfl, hb⟩; refine ⟨_, rfl, ?_⟩; replace BK219 := bb_ BK219 hb; replace BK220 := bb_ BK220 hb; replace BK221 := bb_ BK221 hb; replace BK222 := bb_ BK222 hb; replace HB := Aside0.mk (below_step (bf_ HB) hb); (try clear hb); (try clear hb2); (try clear hk); (try clear hi)) | ((with_reducible refine gd_ 8 rfl ?_); refine bv_ 8 #[.int .i64 0, .int .i64 0, .int .i64 0] 29 ?_; intro gb229 hg w55 hbox hb; have BK229 := Aside0.mk (hbox); have GW229 := gw_ HB hg; have GE229 := gw_ HB hg; replace HB := Aside0.mk (below_step (bf_ HB) hb); have NB219_229 := nl_ BK219 hg; have NB229_219 := ng_ BK219 hg; replace BK219 := bb_ BK219 hb; have NB220_229 := nl_ BK220 hg; have NB229_220 := ng_ BK220 hg; replace BK220 := bb_ BK220 hb; have NB221_229 := nl_ BK221 hg; have NB229_221 := ng_ BK221 hg; replace BK221 := bb_ BK221 hb; have NB222_229 := nl_ BK222 hg; have NB229_222 := ng_ BK222 hg; replace BK222 := bb_ BK222 hb; clear hb hbox hg; have hnb56 := NB229_219.out; have hnc56 := NB219_229.out; have hnb57 := NB229_220.out; have hnc57 := NB220_229.out; have hnb58 := NB229_221.out; have hnc58 := NB221_229.out; have hnb59 := NB229_222.out; have hnc59 := NB222_229.out; obtain ⟨hcz60_0, hcz60_1, hcz60_2, hfz60_0, hfz60_1, hfz60_2⟩ := bz3_ BK229) | ((with_reducible refine gc_ 89 rfl ?_); refine gl_ 28 Try.func89 #[.agg #[.int .i64 t226, .int .i64 t227, .int .i64 t228]] ?_; (with_reducible refine (impl_TagOk.calls t226 t227 t228 true _ A45.out).mono ?_); rintro e w61 ⟨rfl, hb⟩; refine ⟨_, rfl, ?_⟩; replace BK219 := bm_ BK219 hb; replace BK220 := bm_ BK220 hb; replace BK221 := bm_ BK221 hb; replace BK222 := bm_ BK222 hb; replace BK229 := Aside0.mk (blk_below (g := gb229) (o := .cells #[.int .i64 t226, .int .i64 t227, .int .i64 t228] 29 (0, 0)) (by (with_reducible repeat (first | refine blk_drewN ?_ _ | refine blk_drew ?_ | refine blk_alloc ?_ _)); refine blk_put (cs := #[.int .i64 t226, .int .i64 t227, .int .i64 0]) ?_ 2 _ rfl; (with_reducible repeat (first | refine blk_drewN ?_ _ | refine blk_drew ?_ | refine blk_alloc ?_ _)); refine blk_put (cs := #[.int .i64 t226, .int .i64 0, .int .i64 0]) ?_ 1 _ rfl; (with_reducible repeat (first | refine blk_drewN ?_ _ | refine blk_drew ?_ | refine blk_alloc ?_ _)); refine blk_put (cs := #[.int .i64 0, .int .i64 0, .int .i64 0]) ?_ 0 _ rfl; exact bk_ BK229) hb); replace HB := Aside0.mk (below_step (bf_ HB) hb); (try clear hb); (try clear hb2); (try clear hk); (try clear hi); obtain ⟨hcz62_0, hcz62_1, hcz62_2, hfz62_0, hfz62_1, hfz62_2⟩ := bz3_ BK229; have hnb63 := NB222_221.out; have hnc63 := NB221_222.out; obtain ⟨hcz64_0, hcz64_1, hcz64_2, hfz64_0, hfz64_1, hfz64_2⟩ := bz3_ BK222))
     refine bodyPost_ret (results_ct rfl _ _ gb222 29 #[.int .i64 t226, .int .i64 t227, .int .i64 t228] (0, 0) _ rfl (by (with_reducible repeat (first | refine blk_drewN ?_ _ | refine blk_drew ?_ | refine blk_alloc ?_ _)); refine blk_put (cs := #[.int .i64 t226, .int .i64 t227, .int .i64 0]) ?_ 2 _ rfl; (with_reducible repeat (first | refine blk_drewN ?_ _ | refine blk_drew ?_ | refine blk_alloc ?_ _)); refine blk_put (cs := #[.int .i64 t226, .int .i64 0, .int .i64 0]) ?_ 1 _ rfl; (with_reducible repeat (first | refine blk_drewN ?_ _ | refine blk_drew ?_ | refine blk_alloc ?_ _)); refine blk_put (cs := #[.int .i64 0, .int .i64 0, .int .i64 0]) ?_ 0 _ rfl; exact bk_ BK222) Try.underlying29 rfl (by kernel_rfl)) rfl ?_
     exact ⟨by first | rfl | (simp [errW_none, errW_some] <;> rfl) | (simp [*, errW_none, errW_some] <;> rfl), bf_ HB⟩
    ·replace c46 := Bool.eq_false_iff.mpr c46
     subst c46
     have H1 : (some (0, 0, 0, false)) = some (r1, r2, r3, r4) := by rw [if_neg (show ¬ (false = true) by decide)] at H; exact H
     clear H
     have H := H1
     clear H1
     simp only [Option.some.injEq, Prod.mk.injEq] at H
     obtain ⟨rfl, rfl, rfl, rfl⟩ := H
     have hnb65 := NB219_220.out; have hnc65 := NB220_219.out; have hnb66 := NB219_221.out; have hnc66 := NB221_219.out; have hnb67 := NB219_222.out; have hnc67 := NB222_219.out; obtain ⟨hcz68_0, hcz68_1, hcz68_2, hfz68_0, hfz68_1, hfz68_2⟩ := bz3_ BK219; have hnb69 := NB220_221.out; have hnc69 := NB221_220.out; have hnb70 := NB220_222.out; have hnc70 := NB222_220.out; obtain ⟨hcz71_0, hcz71_1, hcz71_2, hfz71_0, hfz71_1, hfz71_2⟩ := bz3_ BK220
     go_wp2_with (first | ((with_reducible refine gc_ 99 rfl ?_); refine gl_ 26 Try.func99 #[.agg #[.int .i64 a0_0, .int .i64 a0_1, .int .i64 a0_2], .agg #[.int .i64 a1_0, .int .i64 a1_1, .int .i64 a1_2], .func (.func 105) #[] #[.pointer (some ⟨gb221, 0, none⟩)]] ?_; (with_reducible refine (impl_both_105.calls a0_0 a0_1 a0_2 a1_0 a1_1 a1_2 a2 7770105 t226 t227 t228 _ gb221 (bk_ BK221) A44.out).mono ?_); rintro e w72 ⟨rfl, hb⟩; refine ⟨_, rfl, ?_⟩; replace BK219 := bb_ BK219 hb; replace BK220 := bb_ BK220 hb; replace BK221 := bb_ BK221 hb; replace BK222 := bb_ BK222 hb; replace HB := Aside0.mk (below_step (bf_ HB) hb); (try clear hb); (try clear hb2); (try clear hk); (try clear hi)) | ((with_reducible refine gd_ 8 rfl ?_); refine bv_ 8 #[.int .i64 0, .int .i64 0, .int .i64 0] 29 ?_; intro gb229 hg w73 hbox hb; have BK229 := Aside0.mk (hbox); have GW229 := gw_ HB hg; have GE229 := gw_ HB hg; replace HB := Aside0.mk (below_step (bf_ HB) hb); have NB219_229 := nl_ BK219 hg; have NB229_219 := ng_ BK219 hg; replace BK219 := bb_ BK219 hb; have NB220_229 := nl_ BK220 hg; have NB229_220 := ng_ BK220 hg; replace BK220 := bb_ BK220 hb; have NB221_229 := nl_ BK221 hg; have NB229_221 := ng_ BK221 hg; replace BK221 := bb_ BK221 hb; have NB222_229 := nl_ BK222 hg; have NB229_222 := ng_ BK222 hg; replace BK222 := bb_ BK222 hb; clear hb hbox hg; have hnb74 := NB229_219.out; have hnc74 := NB219_229.out; have hnb75 := NB229_220.out; have hnc75 := NB220_229.out; have hnb76 := NB229_221.out; have hnc76 := NB221_229.out; have hnb77 := NB229_222.out; have hnc77 := NB222_229.out; obtain ⟨hcz78_0, hcz78_1, hcz78_2, hfz78_0, hfz78_1, hfz78_2⟩ := bz3_ BK229) | ((with_reducible refine gc_ 89 rfl ?_); refine gl_ 28 Try.func89 #[.agg #[.int .i64 t226, .int .i64 t227, .int .i64 t228]] ?_; (with_reducible refine (impl_TagOk.calls t226 t227 t228 false _ A45.out).mono ?_); rintro e w79 ⟨rfl, hb⟩; refine ⟨_, rfl, ?_⟩; replace BK219 := bm_ BK219 hb; replace BK220 := bm_ BK220 hb; replace BK221 := bm_ BK221 hb; replace BK222 := bm_ BK222 hb; replace BK229 := Aside0.mk (blk_below (g := gb229) (o := .cells #[.int .i64 t226, .int .i64 t227, .int .i64 t228] 29 (0, 0)) (by (with_reducible repeat (first | refine blk_drewN ?_ _ | refine blk_drew ?_ | refine blk_alloc ?_ _)); refine blk_put (cs := #[.int .i64 t226, .int .i64 t227, .int .i64 0]) ?_ 2 _ rfl; (with_reducible repeat (first | refine blk_drewN ?_ _ | refine blk_drew ?_ | refine blk_alloc ?_ _)); refine blk_put (cs := #[.int .i64 t226, .int .i64 0, .int .i64 0]) ?_ 1 _ rfl; (with_reducible repeat (first | refine blk_drewN ?_ _ | refine blk_drew ?_ | refine blk_alloc ?_ _)); refine blk_put (cs := #[.int .i64 0, .int .i64 0, .int .i64 0]) ?_ 0 _ rfl; exact bk_ BK229) hb); replace HB := Aside0.mk (below_step (bf_ HB) hb); (try clear hb); (try clear hb2); (try clear hk); (try clear hi); have hnb80 := NB222_221.out; have hnc80 := NB221_222.out; obtain ⟨hcz81_0, hcz81_1, hcz81_2, hfz81_0, hfz81_1, hfz81_2⟩ := bz3_ BK222))
     refine bodyPost_ret (results_ct rfl _ _ gb222 29 #[.int .i64 0, .int .i64 0, .int .i64 0] (0, 0) _ rfl (by (with_reducible repeat (first | refine blk_drewN ?_ _ | refine blk_drew ?_ | refine blk_alloc ?_ _)); refine blk_put (cs := #[.int .i64 0, .int .i64 0, .int .i64 0]) ?_ 2 _ rfl; (with_reducible repeat (first | refine blk_drewN ?_ _ | refine blk_drew ?_ | refine blk_alloc ?_ _)); refine blk_put (cs := #[.int .i64 0, .int .i64 0, .int .i64 0]) ?_ 1 _ rfl; (with_reducible repeat (first | refine blk_drewN ?_ _ | refine blk_drew ?_ | refine blk_alloc ?_ _)); refine blk_put (cs := #[.int .i64 0, .int .i64 0, .int .i64 0]) ?_ 0 _ rfl; exact bk_ BK222) Try.underlying29 rfl (by kernel_rfl)) rfl ?_
     exact ⟨by first | rfl | (simp [errW_none, errW_some] <;> rfl) | (simp [*, errW_none, errW_some] <;> rfl), bf_ HB⟩

-- NOT PRINTED: function 97 (impl_Vec_each)

/-! ### impl_Dovetail_1: function 106 -/
def impl_Dovetail_1.f (a0 : Int) (a1_0 : Int) (a1_1 : Int) (a1_2 : Int) (a2 : Int) : Option (Int) := (impl_VecTop.f a1_0 a1_1 a1_2).bind fun t233 => (some (mx a0 (wrap64 (t233 - a2))))
set_option maxHeartbeats 8000000 in
set_option maxRecDepth 100000 in
theorem impl_Dovetail_1.calls (a0 : Int) (a1_0 : Int) (a1_1 : Int) (a1_2 : Int) (a2 : Int) (r : Int) (w : World) (gb231 : Nat) (gb232 : Nat) (hb_gb231 : w.heap[gb231]? = some (.cells #[.int .i64 a1_0, .int .i64 a1_1, .int .i64 a1_2] 29 (0, 0))) (hb_gb232 : w.heap[gb232]? = some (.cells #[.int .i64 a2] 3 (0, 0))) (h : impl_Dovetail_1.f a0 a1_0 a1_1 a1_2 a2 = some r) :
  Calls Try.prog 106 #[.int .i64 a0, .pointer (some ⟨gb231, 0, none⟩), .pointer (some ⟨gb232, 0, none⟩)] w fun e w' => e = .returned (.int .i64 r) ∧ Below w.heap.size w w' := by
 have hu29 := Try.underlying29; have HB := Aside0.mk (Below.refl w.heap.size w)
 have H : ((impl_VecTop.f a1_0 a1_1 a1_2).bind fun t233 => (some (mx a0 (wrap64 (t233 - a2))))) = some r := h
 clear h
 replace H := Option.bind_eq_some_iff.mp H
 obtain ⟨t233, A40, H⟩ := H
 replace H : (some (mx a0 (wrap64 (t233 - a2)))) = some r := H
 have A4 := Aside0.mk A40
 clear A40
 obtain ⟨ji5, hji5⟩ : ∃ j_ : Int, (mx a0 (wrap64 (t233 - a2))) = j_ := ⟨_, rfl⟩
 replace H : (some ji5) = some r := by first | (rw [hji5] at H; exact H) | (simp only [hji5] at H ⊢; exact H)
 (try rw [hji5] at A4)
 have hji5_ : (if a0 < (wrap64 (t233 - a2)) then (wrap64 (t233 - a2)) else a0) = ji5 := hji5
 obtain rfl := Option.some.inj H
 have BK231 := Aside0.mk hb_gb231
 have BK232 := Aside0.mk hb_gb232
 go_enter Try.func106, Try.ntmps106
 try go_wp2
 replace BK231 := Aside0.mk (blk_drew BK231.out); replace BK232 := Aside0.mk (blk_drew BK232.out); replace HB := Aside0.mk (below_drew1 HB.out)
 refine start_ (n := 7) (S := fun w' => cw_ w' gb231 0 (.int .i64 a1_0) ∧ cw_ w' gb231 1 (.int .i64 a1_1) ∧ cw_ w' gb231 2 (.int .i64 a1_2) ∧ cw_ w' gb232 0 (.int .i64 a2)) (ds := []) (bs 7 0) (by kernel_rfl) rfl rfl ⟨bt_ BK231 0, bt_ BK231 1, bt_ BK231 2, bt_ BK232 0⟩ (fun hHeld => ?_)
 generalize w.drew = w8 at BK231 BK232 HB hHeld ⊢
 refine ps0_ 0 5 (bs 7 1) ?_
 refine tk0_ 1 6 (bs 7 2) hHeld ?_
 refine tk0_ 3 8 #[oT,oT,oF,oT,oF,oF,oF] hHeld ?_
 refine on0_ 2 (some 7) (bs 7 4) (fun K hK => ?_)
 refine gs_ Try.func52 #[.agg #[.int .i64 a1_0, .int .i64 a1_1, .int .i64 a1_2]] ?_
 with_reducible refine (impl_VecTop.calls a1_0 a1_1 a1_2 t233 _ A4.out).mono ?_
 rintro e w9 ⟨rfl, hb⟩
 refine ⟨_, rfl, ?_⟩
 replace BK231 := bb_ BK231 hb; replace BK232 := bb_ BK232 hb; replace HB := Aside0.mk (below_step (bf_ HB) hb); (try clear hb); (try clear hb2); (try clear hk); (try clear hi)
 refine hK.out _ _ ⟨bt_ BK231 0, bt_ BK231 1, bt_ BK231 2, bt_ BK232 0⟩ (fun hHeld => ?_)
 clear hK K
 refine norm_ (a' := ?_) ?_ ?_
 rotate_left
 ·show Act.put _ (some 7) _ = _
  simp only [Act.put, ls0_, ls1_, ls2_, i64_w, i32_w]
  rfl
 refine ps0_ 4 9 (bs 7 5) ?_
 refine ps0_ 5 10 (bs 7 6) ?_
 refine ps0_ 6 4 (bs 7 7) ?_
 refine done_ (by kernel_rfl) ?_
 try go_wp2
 go_ret
 exact ⟨by first | rfl | (simp [errW_none, errW_some] <;> rfl) | (simp only [← hji5]; first | rfl | (simp [errW_none, errW_some] <;> rfl)) | (simp [*, errW_none, errW_some] <;> rfl), bf_ HB⟩

/-! ### impl_Vec_each: function 97 -/
def impl_Vec_each.T1 : Bool × List (List Nat × List Nat) := (true, [([], []), ([], []), ([1], [1]), ([0, 2], [0, 2]), ([], []), ([], []), ([5], [5]), ([4, 6, 3], [4, 6]), ([], []), ([], []), ([9], [9]), ([8, 10, 7], [8, 10]), ([3, 7, 11], [3, 7, 11]), ([12, 11, 0, 1, 2, 3, 4, 5, 6, 7, 8, 9, 10, 11, 12], [12])])
def impl_Vec_each.B1 : List Nat := [0, 0, 2, 7, 0, 0, 32, 127, 0, 0, 512, 2047, 4095, 8191]
theorem impl_Vec_each.tab1 : rtab .any (opsOf Try.f97 1) = impl_Vec_each.T1 := by kernel_rfl
theorem impl_Vec_each.bits1 : waitsOk impl_Vec_each.T1.2 impl_Vec_each.B1 = true := by kernel_rfl
set_option maxHeartbeats 8000000 in
set_option maxRecDepth 100000 in
theorem impl_Vec_each.calls (a0_0 : Int) (a0_1 : Int) (a0_2 : Int) (t104 t105 t106 : Int) (nc : Nat) (fnc : Func) (lb : Array Value) (hf : Try.prog.funcs[nc]? = some fnc) (hname : (fnc.name == "runtime.NumGoroutine") = false) (hbd : fnc.body.isSome = true) (w : World)
  (h1 : ∀ (W : World), Below w.heap.size w W → Calls Try.prog nc (#[.int .i64 a0_0] ++ lb) W fun e w' => e = .returned (.int .i64 t104) ∧ Below W.heap.size W w')
  (h2 : ∀ (W : World), Below w.heap.size w W → Calls Try.prog nc (#[.int .i64 a0_1] ++ lb) W fun e w' => e = .returned (.int .i64 t105) ∧ Below W.heap.size W w')
  (h3 : ∀ (W : World), Below w.heap.size w W → Calls Try.prog nc (#[.int .i64 a0_2] ++ lb) W fun e w' => e = .returned (.int .i64 t106) ∧ Below W.heap.size W w') :
  Calls Try.prog 97 #[.agg #[.int .i64 a0_0, .int .i64 a0_1, .int .i64 a0_2], .func (.func nc) #[] lb] w fun e w' => e = .returned (.agg #[.int .i64 t104, .int .i64 t105, .int .i64 t106]) ∧ Below w.heap.size w w' := by
 have HF := Aside0.mk hf
 have HNM := Aside0.mk hname
 have HBD := Aside0.mk hbd
 have HG1 := Aside0.mk h1
 have HG2 := Aside0.mk h2
 have HG3 := Aside0.mk h3
 clear hf hname hbd h1 h2 h3
 have hu29 := Try.underlying29
 have HB := Aside0.mk (Below.refl w.heap.size w)
 go_enter Try.func97, Try.ntmps97
 try go_wp2_with (first | ((with_reducible refine gd_ 2 rfl ?_); refine bv_ 2 #[.int .i64 a0_0, .int .i64 a0_1, .int .i64 a0_2] 29 ?_; intro gb102 hg w6 hbox hb; have BK102 := Aside0.mk (hbox); have GW102 := Aside0.mk ((by rw [hg]; exact (below_size (be_ HB)) : w.heap.size ≤ gb102)); have GE102 := Aside0.mk ((by rw [hg]; exact (below_size (be_ HB)) : w.heap.size ≤ gb102)); replace HB := Aside0.mk (below_step (be_ HB) hb); clear hb hbox hg) | ((with_reducible refine gd_ 4 rfl ?_); refine bv_ 4 #[.int .i64 0, .int .i64 0, .int .i64 0] 29 ?_; intro gb103 hg w7 hbox hb; have BK103 := Aside0.mk (hbox); have GW103 := Aside0.mk ((by rw [hg]; exact (below_size (by repeat (first | (with_reducible first | exact HB.out | apply below_alloc | apply pw_below_drewN | apply below_drew1 | refine below_set ?_ GE102.out) | exact HB.out))) : w.heap.size ≤ gb103)); have GE103 := Aside0.mk ((by rw [hg]; exact (below_size (by repeat (first | (with_reducible first | exact HB.out | apply below_alloc | apply pw_below_drewN | apply below_drew1 | refine below_set ?_ GE102.out) | exact HB.out))) : w.heap.size ≤ gb103)); replace HB := Aside0.mk (below_step (by repeat (first | (with_reducible first | exact HB.out | apply below_alloc | apply pw_below_drewN | apply below_drew1 | refine below_set ?_ GE102.out) | exact HB.out)) hb); have NB102_103 := Aside0.mk ((by rw [hg]; exact Nat.ne_of_lt (blk_lt (g := gb102) (o := .cells #[.int .i64 a0_0, .int .i64 a0_1, .int .i64 a0_2] 29 (0, 0)) (bk_ BK102)) : gb102 ≠ gb103)); have NB103_102 := Aside0.mk ((by rw [hg]; exact Nat.ne_of_gt (blk_lt (g := gb102) (o := .cells #[.int .i64 a0_0, .int .i64 a0_1, .int .i64 a0_2] 29 (0, 0)) (bk_ BK102)) : gb103 ≠ gb102)); replace BK102 := Aside0.mk (blk_below (g := gb102) (o := .cells #[.int .i64 a0_0, .int .i64 a0_1, .int .i64 a0_2] 29 (0, 0)) (bk_ BK102) hb); clear hb hbox hg))
 have n0_ := Aside0.mk (blk_drew BK102.out)
 have n1_ := Aside0.mk (blk_drew BK103.out)
 have n2_ := Aside0.mk (below_drew1 HB.out)
 clear BK102
 clear BK103
 clear HB
 have BK102 := n0_
 have BK103 := n1_
 have HB := n2_
 clear n0_ n1_ n2_
 refine start_ (n := 14) (S := fun w' => cw_ w' gb102 0 (.int .i64 a0_0) ∧ cw_ w' gb102 1 (.int .i64 a0_1) ∧ cw_ w' gb102 2 (.int .i64 a0_2)) (ds := []) (bs 14 0) (by kernel_rfl) rfl rfl ⟨(blk_cell BK102.out 0).trans rfl, (blk_cell BK102.out 1).trans rfl, (blk_cell BK102.out 2).trans rfl⟩ (fun hHeld => ?_); refine with_tabW impl_Vec_each.tab1 impl_Vec_each.bits1 (fun HT_ HW_ => ?_)
 generalize w7.drew = w8 at BK102 BK103 HB hHeld ⊢
 refine ps_ 0 5 (bs 14 1) HT_ ?_
 refine ps_ 1 6 (bs 14 2) HT_ ?_
 refine ps_ 4 9 (bm 14 19) HT_ ?_
 refine ps_ 5 10 (bm 14 51) HT_ ?_
 refine ps_ 8 13 (bm 14 307) HT_ ?_
 refine ps_ 9 14 (bm 14 819) HT_ ?_
 refine tk_ 2 7 (bm 14 823) HT_ HW_ hHeld ?_
 refine tk_ 6 11 (bm 14 887) HT_ HW_ hHeld ?_
 refine tk_ 10 15 (bm 14 1911) HT_ HW_ hHeld ?_
 refine on_ 3 (some 8) (bm 14 1919) HT_ (fun K hK => ?_)
 refine goesV_ (t := 5) HF.out HNM.out HBD.out #[.int .i64 a0_0] lb (by rfl) rfl rfl (by rfl) mt_ ?_
 refine (HG1.out _ (by repeat (first | (with_reducible first | exact HB.out | apply below_alloc | apply pw_below_drewN | apply below_drew1 | refine below_set ?_ GE102.out | refine below_set ?_ GE103.out) | exact HB.out))).mono ?_
 rintro e w9 ⟨rfl, hb⟩
 refine ⟨_, rfl, ?_⟩
 have n0_ := Aside0.mk (blk_below (g := gb102) (o := .cells #[.int .i64 a0_0, .int .i64 a0_1, .int .i64 a0_2] 29 (0, 0)) (bk_ BK102) hb)
 have n1_ := Aside0.mk (blk_below (g := gb103) (o := .cells #[.int .i64 0, .int .i64 0, .int .i64 0] 29 (0, 0)) (bk_ BK103) hb)
 have n2_ := Aside0.mk (below_step (by repeat (first | (with_reducible first | exact HB.out | apply below_alloc | apply pw_below_drewN | apply below_drew1 | refine below_set ?_ GE102.out | refine below_set ?_ GE103.out) | exact HB.out)) hb)
 clear BK102
 clear BK103
 clear HB
 have BK102 := n0_
 have BK103 := n1_
 have HB := n2_
 clear n0_ n1_ n2_
 (try clear hb)
 (try clear hb2)
 (try clear hk)
 (try clear hi)
 refine hK.out _ _ ⟨(blk_cell BK102.out 0).trans rfl, (blk_cell BK102.out 1).trans rfl, (blk_cell BK102.out 2).trans rfl⟩ (fun hHeld => ?_)
 clear hK K
 refine norm_ (a' := ?_) ?_ ?_
 rotate_left
 ·show Act.put _ (some 8) _ = _
  simp only [Act.put, ls0_, ls1_, ls2_, i64_w, i32_w]
  rfl
 refine on_ 7 (some 12) (bs 14 11) HT_ (fun K hK => ?_)
 refine goesV_ (t := 9) HF.out HNM.out HBD.out #[.int .i64 a0_1] lb (by rfl) rfl rfl (by rfl) mt_ ?_
 refine (HG2.out _ (by repeat (first | (with_reducible first | exact HB.out | apply below_alloc | apply pw_below_drewN | apply below_drew1 | refine below_set ?_ GE102.out | refine below_set ?_ GE103.out) | exact HB.out))).mono ?_
 rintro e w10 ⟨rfl, hb⟩
 refine ⟨_, rfl, ?_⟩
 have n0_ := Aside0.mk (blk_below (g := gb102) (o := .cells #[.int .i64 a0_0, .int .i64 a0_1, .int .i64 a0_2] 29 (0, 0)) (bk_ BK102) hb)
 have n1_ := Aside0.mk (blk_below (g := gb103) (o := .cells #[.int .i64 0, .int .i64 0, .int .i64 0] 29 (0, 0)) (bk_ BK103) hb)
 have n2_ := Aside0.mk (below_step (by repeat (first | (with_reducible first | exact HB.out | apply below_alloc | apply pw_below_drewN | apply below_drew1 | refine below_set ?_ GE102.out | refine below_set ?_ GE103.out) | exact HB.out)) hb)
 clear BK102
 clear BK103
 clear HB
 have BK102 := n0_
 have BK103 := n1_
 have HB := n2_
 clear n0_ n1_ n2_
 (try clear hb)
 (try clear hb2)
 (try clear hk)
 (try clear hi)
 refine hK.out _ _ ⟨(blk_cell BK102.out 0).trans rfl, (blk_cell BK102.out 1).trans rfl, (blk_cell BK102.out 2).trans rfl⟩ (fun hHeld => ?_)
 clear hK K
 refine norm_ (a' := ?_) ?_ ?_
 rotate_left
 ·show Act.put _ (some 12) _ = _
  simp only [Act.put, ls0_, ls1_, ls2_, i64_w, i32_w]
  rfl
 refine on_ 11 (some 16) (bs 14 12) HT_ (fun K hK => ?_)
 refine goesV_ (t := 13) HF.out HNM.out HBD.out #[.int .i64 a0_2] lb (by rfl) rfl rfl (by rfl) mt_ ?_
 refine (HG3.out _ (by repeat (first | (with_reducible first | exact HB.out | apply below_alloc | apply pw_below_drewN | apply below_drew1 | refine below_set ?_ GE102.out | refine below_set ?_ GE103.out) | exact HB.out))).mono ?_
 rintro e w11 ⟨rfl, hb⟩
 refine ⟨_, rfl, ?_⟩
 have n0_ := Aside0.mk (blk_below (g := gb102) (o := .cells #[.int .i64 a0_0, .int .i64 a0_1, .int .i64 a0_2] 29 (0, 0)) (bk_ BK102) hb)
 have n1_ := Aside0.mk (blk_below (g := gb103) (o := .cells #[.int .i64 0, .int .i64 0, .int .i64 0] 29 (0, 0)) (bk_ BK103) hb)
 have n2_ := Aside0.mk (below_step (by repeat (first | (with_reducible first | exact HB.out | apply below_alloc | apply pw_below_drewN | apply below_drew1 | refine below_set ?_ GE102.out | refine below_set ?_ GE103.out) | exact HB.out)) hb)
 clear BK102
 clear BK103
 clear HB
 have BK102 := n0_
 have BK103 := n1_
 have HB := n2_
 clear n0_ n1_ n2_
 (try clear hb)
 (try clear hb2)
 (try clear hk)
 (try clear hi)
 refine hK.out _ _ ⟨(blk_cell BK102.out 0).trans rfl, (blk_cell BK102.out 1).trans rfl, (blk_cell BK102.out 2).trans rfl⟩ (fun hHeld => ?_)
 clear hK K
 refine norm_ (a' := ?_) ?_ ?_
 rotate_left
 ·show Act.put _ (some 16) _ = _
  simp only [Act.put, ls0_, ls1_, ls2_, i64_w, i32_w]
  rfl
 refine ps_ 12 17 (bs 14 13) HT_ ?_
 refine on_ 13 none (bs 14 14) HT_ (fun K hK => ?_)
 have hs12 : w11.cell? ⟨gb103, 0, none⟩ = some (.int .i64 0) := (blk_cell BK103.out 0).trans rfl
 have hfs12 := blk_frozen BK103.out 0
 have hns12_0 := NB102_103.out
 have hms12_0 := NB103_102.out
 have hs13 : w11.cell? ⟨gb103, 1, none⟩ = some (.int .i64 0) := (blk_cell BK103.out 1).trans rfl
 have hfs13 := blk_frozen BK103.out 1
 have hns13_0 := NB102_103.out
 have hms13_0 := NB103_102.out
 have hs14 : w11.cell? ⟨gb103, 2, none⟩ = some (.int .i64 0) := (blk_cell BK103.out 2).trans rfl
 have hfs14 := blk_frozen BK103.out 2
 have hns14_0 := NB102_103.out
 have hms14_0 := NB103_102.out
 refine skip_ (w1 := ?_) (by rfl) rfl ?_ ?_
 rotate_left
 ·go_simp
  rfl
 refine hK.out _ _ ⟨(cf3_ NB102_103.out hHeld.1), (cf3_ NB102_103.out hHeld.2.1), (cf3_ NB102_103.out hHeld.2.2)⟩ (fun hHeld => ?_)
 clear hK K
 refine done_ (done_of HT_.out (by kernel_rfl)) ?_
 try go_wp2
 refine bodyPost_ret (results_cell_row rfl _ _ gb103 29 #[.int .i64 t104, .int .i64 t105, .int .i64 t106] (0, 0) _ rfl (by (with_reducible repeat (first | refine blk_drewN ?_ _ | refine blk_drew ?_ | refine blk_alloc ?_ _)); refine blk_put (cs := #[.int .i64 t104, .int .i64 t105, .int .i64 0]) ?_ 2 _ rfl; (with_reducible repeat (first | refine blk_drewN ?_ _ | refine blk_drew ?_ | refine blk_alloc ?_ _)); refine blk_put (cs := #[.int .i64 t104, .int .i64 0, .int .i64 0]) ?_ 1 _ rfl; (with_reducible repeat (first | refine blk_drewN ?_ _ | refine blk_drew ?_ | refine blk_alloc ?_ _)); refine blk_put (cs := #[.int .i64 0, .int .i64 0, .int .i64 0]) ?_ 0 _ rfl; exact bk_ BK103) Try.underlying29 rfl (by kernel_rfl)) rfl ?_
 exact ⟨by first | rfl | (simp [errW_none, errW_some] <;> rfl) | (simp [*, errW_none, errW_some] <;> rfl), by repeat (first | (with_reducible first | exact HB.out | apply below_alloc | apply pw_below_drewN | apply below_drew1 | refine below_set ?_ GE102.out | refine below_set ?_ GE103.out) | exact HB.out)⟩


def impl_Vec_each_106.f (a0_0 : Int) (a0_1 : Int) (a0_2 : Int) (c0_0 : Int) (c0_1 : Int) (c0_2 : Int) (c1_0 : Int) (dm : Int) : Option (Int × Int × Int) := (impl_Dovetail_1.f a0_0 c0_0 c0_1 c0_2 c1_0).bind fun r1 => (impl_Dovetail_1.f a0_1 c0_0 c0_1 c0_2 c1_0).bind fun r2 => (impl_Dovetail_1.f a0_2 c0_0 c0_1 c0_2 c1_0).bind fun r3 => some (r1, r2, r3)
theorem impl_Vec_each_106.calls (a0_0 : Int) (a0_1 : Int) (a0_2 : Int) (c0_0 : Int) (c0_1 : Int) (c0_2 : Int) (c1_0 : Int) (dm : Int) (r1 r2 r3 : Int) (w : World) (g0 : Nat) (g1 : Nat) (hb0 : w.heap[g0]? = some (.cells #[.int .i64 c0_0, .int .i64 c0_1, .int .i64 c0_2] 29 (0, 0))) (hb1 : w.heap[g1]? = some (.cells #[.int .i64 c1_0] 3 (0, 0))) (h : impl_Vec_each_106.f a0_0 a0_1 a0_2 c0_0 c0_1 c0_2 c1_0 dm = some (r1, r2, r3)) :
  Calls Try.prog 97 #[.agg #[.int .i64 a0_0, .int .i64 a0_1, .int .i64 a0_2], .func (.func 106) #[] #[.pointer (some ⟨g0, 0, none⟩), .pointer (some ⟨g1, 0, none⟩)]] w fun e w' => e = .returned (.agg #[.int .i64 r1, .int .i64 r2, .int .i64 r3]) ∧ Below w.heap.size w w' := by
 unfold impl_Vec_each_106.f at h
 obtain ⟨q1, h1, h⟩ := Option.bind_eq_some_iff.mp h
 obtain ⟨q2, h2, h⟩ := Option.bind_eq_some_iff.mp h
 obtain ⟨q3, h3, h⟩ := Option.bind_eq_some_iff.mp h
 simp only [Option.some.injEq, Prod.mk.injEq] at h
 obtain ⟨e1, e2, e3⟩ := h
 subst e1 e2 e3
 exact impl_Vec_each.calls a0_0 a0_1 a0_2 q1 q2 q3 106 Try.f106 #[.pointer (some ⟨g0, 0, none⟩), .pointer (some ⟨g1, 0, none⟩)] Try.func106 (by kernel_rfl) rfl w (fun W hW => impl_Dovetail_1.calls a0_0 c0_0 c0_1 c0_2 c1_0 q1 W g0 g1 (blk_below (g := g0) (o := .cells #[.int .i64 c0_0, .int .i64 c0_1, .int .i64 c0_2] 29 (0, 0)) hb0 hW) (blk_below (g := g1) (o := .cells #[.int .i64 c1_0] 3 (0, 0)) hb1 hW) h1) (fun W hW => impl_Dovetail_1.calls a0_1 c0_0 c0_1 c0_2 c1_0 q2 W g0 g1 (blk_below (g := g0) (o := .cells #[.int .i64 c0_0, .int .i64 c0_1, .int .i64 c0_2] 29 (0, 0)) hb0 hW) (blk_below (g := g1) (o := .cells #[.int .i64 c1_0] 3 (0, 0)) hb1 hW) h2) (fun W hW => impl_Dovetail_1.calls a0_2 c0_0 c0_1 c0_2 c1_0 q3 W g0 g1 (blk_below (g := g0) (o := .cells #[.int .i64 c0_0, .int .i64 c0_1, .int .i64 c0_2] 29 (0, 0)) hb0 hW) (blk_below (g := g1) (o := .cells #[.int .i64 c1_0] 3 (0, 0)) hb1 hW) h3)

/-! ### impl_Dovetail: function 76 -/
def impl_Dovetail.f (a0_0 : Int) (a0_1 : Int) (a0_2 : Int) (a1 : Int) : Option (Int × Int × Int) := (impl_TagOk.f a0_0 a0_1 a0_2).bind fun t237 => (if t237 = true then ((impl_isDelta.f a1).bind fun t238 => (if t238 = true then ((impl_Vec_each_106.f a0_0 a0_1 a0_2 a0_0 a0_1 a0_2 a1 7770106).bind fun bt239 => (some (bt239.1, bt239.2.1, bt239.2.2))) else (some (0, 0, 0)))) else (some (0, 0, 0)))
set_option maxHeartbeats 8000000 in
set_option maxRecDepth 100000 in
theorem impl_Dovetail.calls (a0_0 : Int) (a0_1 : Int) (a0_2 : Int) (a1 : Int) (r1 : Int) (r2 : Int) (r3 : Int) (w : World) (h : impl_Dovetail.f a0_0 a0_1 a0_2 a1 = some (r1, r2, r3)) :
  Calls Try.prog 76 #[.agg #[.int .i64 a0_0, .int .i64 a0_1, .int .i64 a0_2], .int .i64 a1] w fun e w' => e = .returned (.agg #[.int .i64 r1, .int .i64 r2, .int .i64 r3]) ∧ Below w.heap.size w w' := by
 have hu29 := Try.underlying29; have HB := Aside0.mk (Below.refl w.heap.size w)
 have H : ((impl_TagOk.f a0_0 a0_1 a0_2).bind fun t237 => (if t237 = true then ((impl_isDelta.f a1).bind fun t238 => (if t238 = true then ((impl_Vec_each_106.f a0_0 a0_1 a0_2 a0_0 a0_1 a0_2 a1 7770106).bind fun bt239 => (some (bt239.1, bt239.2.1, bt239.2.2))) else (some (0, 0, 0)))) else (some (0, 0, 0)))) = some (r1, r2, r3) := h
 clear h
 replace H := Option.bind_eq_some_iff.mp H
 obtain ⟨t237, A30, H⟩ := H
 replace H : (if t237 = true then ((impl_isDelta.f a1).bind fun t238 => (if t238 = true then ((impl_Vec_each_106.f a0_0 a0_1 a0_2 a0_0 a0_1 a0_2 a1 7770106).bind fun bt239 => (some (bt239.1, bt239.2.1, bt239.2.2))) else (some (0, 0, 0)))) else (some (0, 0, 0))) = some (r1, r2, r3) := H
 have A3 := Aside0.mk A30
 clear A30
 by_cases c4 : t237 = true
 ·subst c4
  have H1 : ((impl_isDelta.f a1).bind fun t238 => (if t238 = true then ((impl_Vec_each_106.f a0_0 a0_1 a0_2 a0_0 a0_1 a0_2 a1 7770106).bind fun bt239 => (some (bt239.1, bt239.2.1, bt239.2.2))) else (some (0, 0, 0)))) = some (r1, r2, r3) := by rw [if_pos rfl] at H; exact H
  clear H
  have H := H1
  clear H1
  replace H := Option.bind_eq_some_iff.mp H
  obtain ⟨t238, A50, H⟩ := H
  replace H : (if t238 = true then ((impl_Vec_each_106.f a0_0 a0_1 a0_2 a0_0 a0_1 a0_2 a1 7770106).bind fun bt239 => (some (bt239.1, bt239.2.1, bt239.2.2))) else (some (0, 0, 0))) = some (r1, r2, r3) := H
  have A5 := Aside0.mk A50
  clear A50
  by_cases c6 : t238 = true
  ·subst c6
   have H1 : ((impl_Vec_each_106.f a0_0 a0_1 a0_2 a0_0 a0_1 a0_2 a1 7770106).bind fun bt239 => (some (bt239.1, bt239.2.1, bt239.2.2))) = some (r1, r2, r3) := by rw [if_pos rfl] at H; exact H
   clear H
   have H := H1
   clear H1
   replace H := Option.bind_eq_some_iff.mp H
   obtain ⟨⟨t239, t240, t241⟩, A70, H⟩ := H
   replace H : (some (t239, t240, t241)) = some (r1, r2, r3) := H
   have A7 := Aside0.mk A70
   clear A70
   simp only [Option.some.injEq, Prod.mk.injEq] at H
   obtain ⟨rfl, rfl, rfl⟩ := H
   go_enter Try.func76, Try.ntmps76
   go_wp2_with (first | ((with_reducible refine gd_ 2 rfl ?_); refine bv_ 2 #[.int .i64 a0_0, .int .i64 a0_1, .int .i64 a0_2] 29 ?_; intro gb234 hg w8 hbox hb; have BK234 := Aside0.mk (hbox); have GW234 := gw_ HB hg; have GE234 := gw_ HB hg; replace HB := Aside0.mk (below_step (be_ HB) hb); clear hb hbox hg) | ((with_reducible refine gd_ 3 rfl ?_); refine bv_ 3 #[.int .i64 a1] 3 ?_; intro gb235 hg w9 hbox hb; have BK235 := Aside0.mk (hbox); have GW235 := gw_ HB hg; have GE235 := gw_ HB hg; replace HB := Aside0.mk (below_step (bf_ HB) hb); have NB234_235 := nl_ BK234 hg; have NB235_234 := ng_ BK234 hg; replace BK234 := bb_ BK234 hb; clear hb hbox hg) | ((with_reducible refine gd_ 4 rfl ?_); refine bv_ 4 #[.int .i64 0, .int .i64 0, .int .i64 0] 29 ?_; intro gb236 hg w10 hbox hb; have BK236 := Aside0.mk (hbox); have GW236 := gw_ HB hg; have GE236 := gw_ HB hg; replace HB := Aside0.mk (below_step (bf_ HB) hb); have NB234_236 := nl_ BK234 hg; have NB236_234 := ng_ BK234 hg; replace BK234 := bb_ BK234 hb; have NB235_236 := nl_ BK235 hg; have NB236_235 := ng_ BK235 hg; replace BK235 := bb_ BK235 hb; clear hb hbox hg; have hnb11 := NB234_235.out; have hnc11 := NB235_234.out; have hnb12 := NB234_236.out; have hnc12 := NB236_234.out; obtain ⟨hcz13_0, hcz13_1, hcz13_2, hfz13_0, hfz13_1, hfz13_2⟩ := bz3_ BK234) | ((with_reducible refine gc_ 89 rfl ?_); refine gl_ 6 Try.func89 #[.agg #[.int .i64 a0_0, .int .i64 a0_1, .int .i64 a0_2]] ?_; (with_reducible refine (impl_TagOk.calls a0_0 a0_1 a0_2 true _ A3.out).mono ?_); rintro e w14 ⟨rfl, hb⟩; refine ⟨_, rfl, ?_⟩; replace BK234 := bb_ BK234 hb; replace BK235 := bb_ BK235 hb; replace BK236 := bb_ BK236 hb; replace HB := Aside0.mk (below_step (bf_ HB) hb); (try clear hb); (try clear hb2); (try clear hk); (try clear hi); have hnb15 := NB235_236.out; have hnc15 := NB236_235.out; obtain ⟨hcz16_0, hfz16_0⟩ := bz1_ BK235) | (go_at_call 90; (with_reducible refine (impl_isDelta.calls a1 true _ A5.out).mono ?_); rintro e w' ⟨rfl, ⟨nd, rfl⟩⟩; (try (rw [drewN_self w14]; generalize hq_ : World.drewN w14 _ = w14; have n0_ : Aside0 (w14.heap[gb234]? = some (.cells #[.int .i64 a0_0, .int .i64 a0_1, .int .i64 a0_2] 29 (0, 0))) := ⟨by rw [← hq_]; exact (bk_ BK234)⟩; have n1_ : Aside0 (w14.heap[gb235]? = some (.cells #[.int .i64 a1] 3 (0, 0))) := ⟨by rw [← hq_]; exact (bk_ BK235)⟩; have n2_ : Aside0 (w14.heap[gb236]? = some (.cells #[.int .i64 0, .int .i64 0, .int .i64 0] 29 (0, 0))) := ⟨by rw [← hq_]; exact (bk_ BK236)⟩; have n3_ : Aside0 (Below w.heap.size w w14) := ⟨by rw [← hq_]; exact (bf_ HB)⟩; clear BK234 BK235 BK236 HB hq_; have BK234 := n0_; have BK235 := n1_; have BK236 := n2_; have HB := n3_; clear n0_ n1_ n2_ n3_)); obtain ⟨hcz17_0, hcz17_1, hcz17_2, hfz17_0, hfz17_1, hfz17_2⟩ := bz3_ BK234) | ((with_reducible refine gc_ 97 rfl ?_); refine gl_ 16 Try.func97 #[.agg #[.int .i64 a0_0, .int .i64 a0_1, .int .i64 a0_2], .func (.func 106) #[] #[.pointer (some ⟨gb234, 0, none⟩), .pointer (some ⟨gb235, 0, none⟩)]] ?_; (with_reducible refine (impl_Vec_each_106.calls a0_0 a0_1 a0_2 a0_0 a0_1 a0_2 a1 7770106 t239 t240 t241 _ gb234 gb235 (bk_ BK234) (bk_ BK235) A7.out).mono ?_); rintro e w18 ⟨rfl, hb⟩; refine ⟨_, rfl, ?_⟩; replace BK234 := bb_ BK234 hb; replace BK235 := bb_ BK235 hb; replace BK236 := bb_ BK236 hb; replace HB := Aside0.mk (below_step (bf_ HB) hb); (try clear hb); (try clear hb2); (try clear hk); (try clear hi); obtain ⟨hcz19_0, hcz19_1, hcz19_2, hfz19_0, hfz19_1, hfz19_2⟩ := bz3_ BK236))
   refine bodyPost_ret (results_cell_row rfl _ _ gb236 29 #[.int .i64 t239, .int .i64 t240, .int .i64 t241] (0, 0) _ rfl (by (with_reducible repeat (first | refine blk_drewN ?_ _ | refine blk_drew ?_ | refine blk_alloc ?_ _)); refine blk_put (cs := #[.int .i64 t239, .int .i64 t240, .int .i64 0]) ?_ 2 _ rfl; (with_reducible repeat (first | refine blk_drewN ?_ _ | refine blk_drew ?_ | refine blk_alloc ?_ _)); refine blk_put (cs := #[.int .i64 t239, .int .i64 0, .int .i64 0]) ?_ 1 _ rfl; (with_reducible repeat (first | refine blk_drewN ?_ _ | refine blk_drew ?_ | refine blk_alloc ?_ _)); refine blk_put (cs := #[.int .i64 0, .int .i64 0, .int .i64 0]) ?_ 0 _ rfl; exact bk_ BK236) Try.underlying29 rfl (by kernel_rfl)) rfl ?_
   exact ⟨by first | rfl | (simp [errW_none, errW_some] <;> rfl) | (simp [*, errW_none, errW_some] <;> rfl), bf_ HB⟩
  ·replace c6 := Bool.eq_false_iff.mpr c6
   subst c6
   have H1 : (some (0, 0, 0)) = some (r1, r2, r3) := by rw [if_neg (show ¬ (false = true) by decide)] at H; exact H
   clear H
   have H := H1
   clear H1
   simp only [Option.some.injEq, Prod.mk.injEq] at H
   obtain ⟨rfl, rfl, rfl⟩ := H
   go_enter Try.func76, Try.ntmps76
   go_wp2_with (first | ((with_reducible refine gd_ 2 rfl ?_); refine bv_ 2 #[.int .i64 a0_0, .int .i64 a0_1, .int .i64 a0_2] 29 ?_; intro gb234 hg w20 hbox hb; have BK234 := Aside0.mk (hbox); have GW234 := gw_ HB hg; have GE234 := gw_ HB hg; replace HB := Aside0.mk (below_step (be_ HB) hb); clear hb hbox hg) | ((with_reducible refine gd_ 3 rfl ?_); refine bv_ 3 #[.int .i64 a1] 3 ?_; intro gb235 hg w21 hbox hb; have BK235 := Aside0.mk (hbox); have GW235 := gw_ HB hg; have GE235 := gw_ HB hg; replace HB := Aside0.mk (below_step (bf_ HB) hb); have NB234_235 := nl_ BK234 hg; have NB235_234 := ng_ BK234 hg; replace BK234 := bb_ BK234 hb; clear hb hbox hg) | ((with_reducible refine gd_ 4 rfl ?_); refine bv_ 4 #[.int .i64 0, .int .i64 0, .int .i64 0] 29 ?_; intro gb236 hg w22 hbox hb; have BK236 := Aside0.mk (hbox); have GW236 := gw_ HB hg; have GE236 := gw_ HB hg; replace HB := Aside0.mk (below_step (bf_ HB) hb); have NB234_236 := nl_ BK234 hg; have NB236_234 := ng_ BK234 hg; replace BK234 := bb_ BK234 hb; have NB235_236 := nl_ BK235 hg; have NB236_235 := ng_ BK235 hg; replace BK235 := bb_ BK235 hb; clear hb hbox hg; have hnb23 := NB234_235.out; have hnc23 := NB235_234.out; have hnb24 := NB234_236.out; have hnc24 := NB236_234.out; obtain ⟨hcz25_0, hcz25_1, hcz25_2, hfz25_0, hfz25_1, hfz25_2⟩ := bz3_ BK234) | ((with_reducible refine gc_ 89 rfl ?_); refine gl_ 6 Try.func89 #[.agg #[.int .i64 a0_0, .int .i64 a0_1, .int .i64 a0_2]] ?_; (with_reducible refine (impl_TagOk.calls a0_0 a0_1 a0_2 true _ A3.out).mono ?_); rintro e w26 ⟨rfl, hb⟩; refine ⟨_, rfl, ?_⟩; replace BK234 := bb_ BK234 hb; replace BK235 := bb_ BK235 hb; replace BK236 := bb_ BK236 hb; replace HB := Aside0.mk (below_step (bf_ HB) hb); (try clear hb); (try clear hb2); (try clear hk); (try clear hi); have hnb27 := NB235_236.out; have hnc27 := NB236_235.out; obtain ⟨hcz28_0, hfz28_0⟩ := bz1_ BK235) | (go_at_call 90; (with_reducible refine (impl_isDelta.calls a1 false _ A5.out).mono ?_); rintro e w' ⟨rfl, ⟨nd, rfl⟩⟩; (try (rw [drewN_self w26]; generalize hq_ : World.drewN w26 _ = w26; have n0_ : Aside0 (w26.heap[gb234]? = some (.cells #[.int .i64 a0_0, .int .i64 a0_1, .int .i64 a0_2] 29 (0, 0))) := ⟨by rw [← hq_]; exact (bk_ BK234)⟩; have n1_ : Aside0 (w26.heap[gb235]? = some (.cells #[.int .i64 a1] 3 (0, 0))) := ⟨by rw [← hq_]; exact (bk_ BK235)⟩; have n2_ : Aside0 (w26.heap[gb236]? = some (.cells #[.int .i64 0, .int .i64 0, .int .i64 0] 29 (0, 0))) := ⟨by rw [← hq_]; exact (bk_ BK236)⟩; have n3_ : Aside0 (Below w.heap.size w w26) := ⟨by rw [← hq_]; exact (bf_ HB)⟩; clear BK234 BK235 BK236 HB hq_; have BK234 := n0_; have BK235 := n1_; have BK236 := n2_; have HB := n3_; clear n0_ n1_ n2_ n3_)); obtain ⟨hcz29_0, hcz29_1, hcz29_2, hfz29_0, hfz29_1, hfz29_2⟩ := bz3_ BK236))
   refine bodyPost_ret (results_cell_row rfl _ _ gb236 29 #[.int .i64 0, .int .i64 0, .int .i64 0] (0, 0) _ rfl (by (with_reducible repeat (first | refine blk_drewN ?_ _ | refine blk_drew ?_ | refine blk_alloc ?_ _)); refine blk_put (cs := #[.int .i64 0, .int .i64 0, .int .i64 0]) ?_ 2 _ rfl; (with_reducible repeat (first | refine blk_drewN ?_ _ | refine blk_drew ?_ | refine blk_alloc ?_ _)); refine blk_put (cs := #[.int .i64 0, .int .i64 0, .int .i64 0]) ?_ 1 _ rfl; (with_reducible repeat (first | refine blk_drewN ?_ _ | refine blk_drew ?_ | refine blk_alloc ?_ _)); refine blk_put (cs := #[.int .i64 0, .int .i64 0, .int .i64 0]) ?_ 0 _ rfl; exact bk_ BK236) Try.underlying29 rfl (by kernel_rfl)) rfl ?_
   exact ⟨by first | rfl | (simp [errW_none, errW_some] <;> rfl) | (simp [*, errW_none, errW_some] <;> rfl), bf_ HB⟩
 ·replace c4 := Bool.eq_false_iff.mpr c4
  subst c4
  have H1 : (some (0, 0, 0)) = some (r1, r2, r3) := by rw [if_neg (show ¬ (false = true) by decide)] at H; exact H
  clear H
  have H := H1
  clear H1
  simp only [Option.some.injEq, Prod.mk.injEq] at H
  obtain ⟨rfl, rfl, rfl⟩ := H
  go_enter Try.func76, Try.ntmps76
  go_wp2_with (first | ((with_reducible refine gd_ 2 rfl ?_); refine bv_ 2 #[.int .i64 a0_0, .int .i64 a0_1, .int .i64 a0_2] 29 ?_; intro gb234 hg w30 hbox hb; have BK234 := Aside0.mk (hbox); have GW234 := gw_ HB hg; have GE234 := gw_ HB hg; replace HB := Aside0.mk (below_step (be_ HB) hb); clear hb hbox hg) | ((with_reducible refine gd_ 3 rfl ?_); refine bv_ 3 #[.int .i64 a1] 3 ?_; intro gb235 hg w31 hbox hb; have BK235 := Aside0.mk (hbox); have GW235 := gw_ HB hg; have GE235 := gw_ HB hg; replace HB := Aside0.mk (below_step (bf_ HB) hb); have NB234_235 := nl_ BK234 hg; have NB235_234 := ng_ BK234 hg; replace BK234 := bb_ BK234 hb; clear hb hbox hg) | ((with_reducible refine gd_ 4 rfl ?_); refine bv_ 4 #[.int .i64 0, .int .i64 0, .int .i64 0] 29 ?_; intro gb236 hg w32 hbox hb; have BK236 := Aside0.mk (hbox); have GW236 := gw_ HB hg; have GE236 := gw_ HB hg; replace HB := Aside0.mk (below_step (bf_ HB) hb); have NB234_236 := nl_ BK234 hg; have NB236_234 := ng_ BK234 hg; replace BK234 := bb_ BK234 hb; have NB235_236 := nl_ BK235 hg; have NB236_235 := ng_ BK235 hg; replace BK235 := bb_ BK235 hb; clear hb hbox hg; have hnb33 := NB234_235.out; have hnc33 := NB235_234.out; have hnb34 := NB234_236.out; have hnc34 := NB236_234.out; obtain ⟨hcz35_0, hcz35_1, hcz35_2, hfz35_0, hfz35_1, hfz35_2⟩ := bz3_ BK234) | ((with_reducible refine gc_ 89 rfl ?_); refine gl_ 6 Try.func89 #[.agg #[.int .i64 a0_0, .int .i64 a0_1, .int .i64 a0_2]] ?_; (with_reducible refine (impl_TagOk.calls a0_0 a0_1 a0_2 false _ A3.out).mono ?_); rintro e w36 ⟨rfl, hb⟩; refine ⟨_, rfl, ?_⟩; replace BK234 := bb_ BK234 hb; replace BK235 := bb_ BK235 hb; replace BK236 := bb_ BK236 hb; replace HB := Aside0.mk (below_step (bf_ HB) hb); (try clear hb); (try clear hb2); (try clear hk); (try clear hi); have hnb37 := NB236_235.out; have hnc37 := NB235_236.out; obtain ⟨hcz38_0, hcz38_1, hcz38_2, hfz38_0, hfz38_1, hfz38_2⟩ := bz3_ BK236))
  refine bodyPost_ret (results_cell_row rfl _ _ gb236 29 #[.int .i64 0, .int .i64 0, .int .i64 0] (0, 0) _ rfl (by (with_reducible repeat (first | refine blk_drewN ?_ _ | refine blk_drew ?_ | refine blk_alloc ?_ _)); refine blk_put (cs := #[.int .i64 0, .int .i64 0, .int .i64 0]) ?_ 2 _ rfl; (with_reducible repeat (first | refine blk_drewN ?_ _ | refine blk_drew ?_ | refine blk_alloc ?_ _)); refine blk_put (cs := #[.int .i64 0, .int .i64 0, .int .i64 0]) ?_ 1 _ rfl; (with_reducible repeat (first | refine blk_drewN ?_ _ | refine blk_drew ?_ | refine blk_alloc ?_ _)); refine blk_put (cs := #[.int .i64 0, .int .i64 0, .int .i64 0]) ?_ 0 _ rfl; exact bk_ BK236) Try.underlying29 rfl (by kernel_rfl)) rfl ?_
  exact ⟨by first | rfl | (simp [errW_none, errW_some] <;> rfl) | (simp [*, errW_none, errW_some] <;> rfl), bf_ HB⟩

end Go.Proofs.Ytljhaoiopokmfaa.PFnExactFairServe
