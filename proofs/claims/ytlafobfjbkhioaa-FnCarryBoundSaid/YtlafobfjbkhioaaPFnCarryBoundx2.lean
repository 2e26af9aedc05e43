-- printed by a program of this session (wip/printx) out of the translation; Lean checks it
import Derived.Test.YtlafobfjbkhioaaVFnCarryBound
import Derived.Test.YtlafobfjbkhioaaPFnCarryBoundx0
import Derived.Test.YtlafobfjbkhioaaPFnCarryBoundx1
namespace Go.Proofs.Ytlafobfjbkhioaa.PFnCarryBound
open Go.RowKit Go.Proofs.YtlafobfjbkhioaaW.PrintWords Go.Proofs.YtlafobfjbkhioaaW.PrintLast Go.Proofs.YtlafobfjbkhioaaW.PrintMore
attribute [local go_sem] max2_int min2_int max_two min_two max_three min_three max_four min_four   -- for this text's walks alone
set_option linter.unusedVariables false
set_option linter.unusedSimpArgs false

/-! ### spec_DrawCarryRun: function 20 -/
def spec_DrawCarryRun.l0 : Nat → List (S51) → List Int → Int → Int → Option ((List (S51)))
  | 0, _, _, _, _ => none
  | k + 1, x4, x209000, x209001, x209002 => (spec_l01Cur_pick.f x209000 x209001 x209002 2).bind fun bt228 => (if (x4.length : Int) < (wrap64 (1000 + bt228.1)) then ((spec_l01Cur_cost.f x209000 bt228.2.1 bt228.2.2 9).bind fun bt231 => (if x4.length < 4398046511104 then (spec_DrawCarryRun.l0 k (x4 ++ [(⟨false, (⟨bt231.1, bt231.2.1, bt231.2.2.1⟩ : S46)⟩ : S51)]) x209000 bt231.2.2.2.1 bt231.2.2.2.2) else (none))) else (some x4))
def spec_DrawCarryRun.f (k : Nat) (l0 : List Int) : Option ((List (S51))) := (spec_l01Open.f l0).bind fun bt205 => ((spec_l01Cur_deeds.f k bt205.1 bt205.2.1 bt205.2.2).bind fun bt209 => ((spec_l01Cur_pick.f bt205.1 bt209.2.1 bt209.2.2 12).bind fun bt214 => (if bt214.1 = 0 then ((spec_l01Cur_once.f bt205.1 bt214.2.1 bt214.2.2 2).bind fun bt217 => ((spec_l01Cur_vec.f bt205.1 bt217.2.1 bt217.2.2).bind fun bt220 => (if bt209.1.length < 4398046511104 then (some (bt209.1 ++ [(⟨bt217.1, (⟨bt220.1, bt220.2.1, bt220.2.2.1⟩ : S46)⟩ : S51)])) else (none)))) else (if bt214.1 = 1 then (spec_DrawCarryRun.l0 k bt209.1 bt205.1 bt214.2.1 bt214.2.2) else (if bt214.1 = 2 then ((spec_l01Cur_cost.f bt205.1 bt214.2.1 bt214.2.2 9).bind fun bt239 => ((some (([(⟨true, (⟨bt239.1, bt239.2.1, bt239.2.2.1⟩ : S46)⟩ : S51)] : List (S51)) : List (S51))).bind fun y244 => (if y244.length + bt209.1.length < 4398046511104 then (some (y244 ++ bt209.1)) else (none)))) else (some bt209.1))))))
theorem spec_DrawCarryRun.mono_l : ∀ k, (∀ y0 y1 y2 y3, LeO (spec_DrawCarryRun.l0 k y0 y1 y2 y3) (spec_DrawCarryRun.l0 (k + 1) y0 y1 y2 y3))
 | 0 => fun _ _ _ _ r h => by simp [spec_DrawCarryRun.l0] at h
 | k + 1 => by
  have ih0 := spec_DrawCarryRun.mono_l k
  ·intro y0 y1 y2 y3
   unfold spec_DrawCarryRun.l0
   repeat' first
   | (with_reducible exact ih0 _ _ _ _)
   | (with_reducible exact spec_l01Cur_deeds.mono _ _ _ _)
   | (with_reducible exact LeO.refl _)
   | (with_reducible exact LeO.none _)
   | (with_reducible refine LeO.ite ?_ ?_)
   | (with_reducible refine LeO.bind ?_ (fun _ => ?_))
   | exact ih0 _ _ _ _
   | exact spec_l01Cur_deeds.mono _ _ _ _
   | exact LeO.none _
   | refine LeO.ite ?_ ?_
   | refine LeO.bind ?_ (fun _ => ?_)
theorem spec_DrawCarryRun.mono : ∀ a0 k, LeO (spec_DrawCarryRun.f k a0) (spec_DrawCarryRun.f (k + 1) a0) := by
 intro a0 k
 have ih0 := spec_DrawCarryRun.mono_l k
 unfold spec_DrawCarryRun.f
 repeat' first
   | (with_reducible exact ih0 _ _ _ _)
   | (with_reducible exact spec_l01Cur_deeds.mono _ _ _ _)
   | (with_reducible exact LeO.refl _)
   | (with_reducible exact LeO.none _)
   | (with_reducible refine LeO.ite ?_ ?_)
   | (with_reducible refine LeO.bind ?_ (fun _ => ?_))
   | exact ih0 _ _ _ _
   | exact spec_l01Cur_deeds.mono _ _ _ _
   | exact LeO.none _
   | refine LeO.ite ?_ ?_
   | refine LeO.bind ?_ (fun _ => ?_)
set_option maxHeartbeats 8000000 in
set_option maxRecDepth 100000 in
theorem spec_DrawCarryRun.calls (k : Nat) (A0 : Option Addr) (c0 : Nat) (l0 : List Int) (r : List (S51)) (w : World) (hr0 : Kd.C (Kd.int .u8) w A0 l0.length l0) (hc0 : l0.length ≤ c0) (h : spec_DrawCarryRun.f k l0 = some r) :
  Calls Try.prog 20 #[.slice A0 l0.length c0] w fun e w' => ∃ v0_ : Value, e = .returned (v0_) ∧ Kd.R k51 51 w' w.heap.size (fun _ => True) v0_ r ∧ Below w.heap.size w w' := by
 have hu51 := Try.underlying51
 have HR0 := Aside0.mk hr0
 have HC0 := Aside0.mk hc0
 clear hr0 hc0; have HB := Aside0.mk (Below.refl w.heap.size w)
 have H : ((spec_l01Open.f l0).bind fun bt205 => ((spec_l01Cur_deeds.f k bt205.1 bt205.2.1 bt205.2.2).bind fun bt209 => ((spec_l01Cur_pick.f bt205.1 bt209.2.1 bt209.2.2 12).bind fun bt214 => (if bt214.1 = 0 then ((spec_l01Cur_once.f bt205.1 bt214.2.1 bt214.2.2 2).bind fun bt217 => ((spec_l01Cur_vec.f bt205.1 bt217.2.1 bt217.2.2).bind fun bt220 => (if bt209.1.length < 4398046511104 then (some (bt209.1 ++ [(⟨bt217.1, (⟨bt220.1, bt220.2.1, bt220.2.2.1⟩ : S46)⟩ : S51)])) else (none)))) else (if bt214.1 = 1 then (spec_DrawCarryRun.l0 k bt209.1 bt205.1 bt214.2.1 bt214.2.2) else (if bt214.1 = 2 then ((spec_l01Cur_cost.f bt205.1 bt214.2.1 bt214.2.2 9).bind fun bt239 => ((some (([(⟨true, (⟨bt239.1, bt239.2.1, bt239.2.2.1⟩ : S46)⟩ : S51)] : List (S51)) : List (S51))).bind fun y244 => (if y244.length + bt209.1.length < 4398046511104 then (some (y244 ++ bt209.1)) else (none)))) else (some bt209.1))))))) = some r := h
 clear h
 replace H := Option.bind_eq_some_iff.mp H
 obtain ⟨⟨t205, t206, t207⟩, A20, H⟩ := H
 replace H : ((spec_l01Cur_deeds.f k t205 t206 t207).bind fun bt209 => ((spec_l01Cur_pick.f t205 bt209.2.1 bt209.2.2 12).bind fun bt214 => (if bt214.1 = 0 then ((spec_l01Cur_once.f t205 bt214.2.1 bt214.2.2 2).bind fun bt217 => ((spec_l01Cur_vec.f t205 bt217.2.1 bt217.2.2).bind fun bt220 => (if bt209.1.length < 4398046511104 then (some (bt209.1 ++ [(⟨bt217.1, (⟨bt220.1, bt220.2.1, bt220.2.2.1⟩ : S46)⟩ : S51)])) else (none)))) else (if bt214.1 = 1 then (spec_DrawCarryRun.l0 k bt209.1 t205 bt214.2.1 bt214.2.2) else (if bt214.1 = 2 then ((spec_l01Cur_cost.f t205 bt214.2.1 bt214.2.2 9).bind fun bt239 => ((some (([(⟨true, (⟨bt239.1, bt239.2.1, bt239.2.2.1⟩ : S46)⟩ : S51)] : List (S51)) : List (S51))).bind fun y244 => (if y244.length + bt209.1.length < 4398046511104 then (some (y244 ++ bt209.1)) else (none)))) else (some bt209.1)))))) = some r := H
 have A2 := Aside0.mk A20
 clear A20
 replace H := Option.bind_eq_some_iff.mp H
 obtain ⟨⟨t209, t212, t213⟩, A30, H⟩ := H
 replace H : ((spec_l01Cur_pick.f t205 t212 t213 12).bind fun bt214 => (if bt214.1 = 0 then ((spec_l01Cur_once.f t205 bt214.2.1 bt214.2.2 2).bind fun bt217 => ((spec_l01Cur_vec.f t205 bt217.2.1 bt217.2.2).bind fun bt220 => (if t209.length < 4398046511104 then (some (t209 ++ [(⟨bt217.1, (⟨bt220.1, bt220.2.1, bt220.2.2.1⟩ : S46)⟩ : S51)])) else (none)))) else (if bt214.1 = 1 then (spec_DrawCarryRun.l0 k t209 t205 bt214.2.1 bt214.2.2) else (if bt214.1 = 2 then ((spec_l01Cur_cost.f t205 bt214.2.1 bt214.2.2 9).bind fun bt239 => ((some (([(⟨true, (⟨bt239.1, bt239.2.1, bt239.2.2.1⟩ : S46)⟩ : S51)] : List (S51)) : List (S51))).bind fun y244 => (if y244.length + t209.length < 4398046511104 then (some (y244 ++ t209)) else (none)))) else (some t209))))) = some r := H
 have A3 := Aside0.mk A30
 clear A30
 replace H := Option.bind_eq_some_iff.mp H
 obtain ⟨⟨t214, t215, t216⟩, A40, H⟩ := H
 replace H : (if t214 = 0 then ((spec_l01Cur_once.f t205 t215 t216 2).bind fun bt217 => ((spec_l01Cur_vec.f t205 bt217.2.1 bt217.2.2).bind fun bt220 => (if t209.length < 4398046511104 then (some (t209 ++ [(⟨bt217.1, (⟨bt220.1, bt220.2.1, bt220.2.2.1⟩ : S46)⟩ : S51)])) else (none)))) else (if t214 = 1 then (spec_DrawCarryRun.l0 k t209 t205 t215 t216) else (if t214 = 2 then ((spec_l01Cur_cost.f t205 t215 t216 9).bind fun bt239 => ((some (([(⟨true, (⟨bt239.1, bt239.2.1, bt239.2.2.1⟩ : S46)⟩ : S51)] : List (S51)) : List (S51))).bind fun y244 => (if y244.length + t209.length < 4398046511104 then (some (y244 ++ t209)) else (none)))) else (some t209)))) = some r := H
 have A4 := Aside0.mk A40
 clear A40
 by_cases c5 : t214 = 0
 ·rw [if_pos c5] at H
  have c5b0 : (t214 == 0) = true := beq_iff_eq.mpr c5
  have c5b1 : (t214 != 0) = false := bne_eq_false_iff_eq.mpr c5
  clear c5
  replace H := Option.bind_eq_some_iff.mp H
  obtain ⟨⟨t217, t218, t219⟩, A60, H⟩ := H
  replace H : ((spec_l01Cur_vec.f t205 t218 t219).bind fun bt220 => (if t209.length < 4398046511104 then (some (t209 ++ [(⟨t217, (⟨bt220.1, bt220.2.1, bt220.2.2.1⟩ : S46)⟩ : S51)])) else (none))) = some r := H
  have A6 := Aside0.mk A60
  clear A60
  replace H := Option.bind_eq_some_iff.mp H
  obtain ⟨⟨t220, t221, t222, t223, t224⟩, A70, H⟩ := H
  replace H : (if t209.length < 4398046511104 then (some (t209 ++ [(⟨t217, (⟨t220, t221, t222⟩ : S46)⟩ : S51)])) else (none)) = some r := H
  have A7 := Aside0.mk A70
  clear A70
  by_cases c8 : t209.length < 4398046511104
  ·rw [if_pos c8] at H
   have LMc8 := Aside0.mk c8
   clear c8
   obtain ⟨y225, hy225⟩ : ∃ y_ : List (S51), y_ = (t209 ++ [(⟨t217, (⟨t220, t221, t222⟩ : S46)⟩ : S51)]) := ⟨_, rfl⟩
   replace H : (some y225) = some r := by first | (rw [hy225]; with_reducible exact H) | (have H2_ := (Option.bind_some _ _).symm.trans H; rw [hy225]; with_reducible exact H2_) | (have H2_ := (Option.bind_some _ _).symm.trans H; with_reducible exact H2_) | with_reducible exact H | (rw [hy225]; exact H) | exact H
   have Ny225 := Aside0.mk hy225
   clear hy225
   obtain rfl := Option.some.inj H
   go_enter Try.func20, Try.ntmps20
   go_wp2_with (first | ((with_reducible refine gc_ 55 rfl ?_); refine gl_ 6 Try.func55 #[.slice A0 l0.length c0] ?_; (with_reducible refine (spec_l01Open.calls _ _ l0 t205 t206 t207 w _ ?side1 ?side2 ?side3 A2.out).mono ?_); (case side1 => exact be_ HB); (case side2 => exact HR0.out); (case side3 => exact HC0.out); rintro e w9 ⟨g208, rfl, hi, hb, hb2⟩; refine ⟨_, rfl, ?_⟩; replace HB := Aside0.mk (hb); have HI208 := Aside0.mk (hi); (try clear hb); (try clear hb2); (try clear hk); (try clear hi)) | ((with_reducible refine gc_ 56 rfl ?_); refine gl_ 8 Try.func56 #[.pointer (some ⟨g208, 0, none⟩)] ?_; (with_reducible refine (spec_l01Cur_deeds.calls k g208 t205 t206 t207 t209 t212 t213 w _ ?side1 ?side2 A3.out).mono ?_); (case side1 => repeat (first | (with_reducible first | exact HI208.out | apply IsS158.alloc | apply IsS158.drewN | apply IsS158.drew | apply IsS158.set_1 | apply IsS158.set_2) | exact HI208.out)); (case side2 => repeat (first | (with_reducible first | exact HB.out | apply below_alloc | apply pw_below_drewN | apply below_drew1 | refine below_set ?_ (IsS158.ge HI208.out)) | exact HB.out)); rintro e w10 ⟨v210, rfl, ho0, hi, hb, hk⟩; refine ⟨_, rfl, ?_⟩; have HO211 := Aside0.mk (Kd.R_lower ho0 (below_size (by repeat (first | (with_reducible first | exact HB.out | apply below_alloc | apply pw_below_drewN | apply below_drew1 | refine below_set ?_ (IsS158.ge HI208.out)) | exact HB.out)))); replace HB := Aside0.mk (hb); replace HI208 := Aside0.mk (hi); (try clear hb); (try clear hb2); (try clear hk); (try clear hi); (try clear ho0)) | ((with_reducible refine gc_ 57 rfl ?_); refine gl_ 10 Try.func57 #[.pointer (some ⟨g208, 0, none⟩), .int .i64 12] ?_; (with_reducible refine (spec_l01Cur_pick.calls g208 t205 t212 t213 12 t214 t215 t216 w _ ?side1 ?side2 A4.out).mono ?_); (case side1 => repeat (first | (with_reducible first | exact HI208.out | apply IsS158.alloc | apply IsS158.drewN | apply IsS158.drew | apply IsS158.set_1 | apply IsS158.set_2) | exact HI208.out)); (case side2 => repeat (first | (with_reducible first | exact HB.out | apply below_alloc | apply pw_below_drewN | apply below_drew1 | refine below_set ?_ (IsS158.ge HI208.out)) | exact HB.out)); rintro e w11 ⟨rfl, hi, hb, hk⟩; refine ⟨_, rfl, ?_⟩; replace HO211 := Aside0.mk (Kd.R_mono (Kd.R_keep (IsS158.apart (show IsS158 w _ g208 t205 t212 t213 from by repeat (first | (with_reducible first | exact HI208.out | apply IsS158.alloc | apply IsS158.drewN | apply IsS158.drew | apply IsS158.set_1 | apply IsS158.set_2) | exact HI208.out)) (kr_ HO211) (by decide)) hk (fun _ h => h.2)) (fun _ h => h.1)); replace HB := Aside0.mk (hb); replace HI208 := Aside0.mk (hi); (try clear hb); (try clear hb2); (try clear hk); (try clear hi)) | ((with_reducible refine gc_ 58 rfl ?_); refine gl_ 15 Try.func58 #[.pointer (some ⟨g208, 0, none⟩), .int .i64 2] ?_; (with_reducible refine (spec_l01Cur_once.calls g208 t205 t215 t216 2 t217 t218 t219 w _ ?side1 ?side2 A6.out).mono ?_); (case side1 => repeat (first | (with_reducible first | exact HI208.out | apply IsS158.alloc | apply IsS158.drewN | apply IsS158.drew | apply IsS158.set_1 | apply IsS158.set_2) | exact HI208.out)); (case side2 => repeat (first | (with_reducible first | exact HB.out | apply below_alloc | apply pw_below_drewN | apply below_drew1 | refine below_set ?_ (IsS158.ge HI208.out)) | exact HB.out)); rintro e w12 ⟨rfl, hi, hb, hk⟩; refine ⟨_, rfl, ?_⟩; replace HO211 := Aside0.mk (Kd.R_mono (Kd.R_keep (IsS158.apart (show IsS158 w _ g208 t205 t215 t216 from by repeat (first | (with_reducible first | exact HI208.out | apply IsS158.alloc | apply IsS158.drewN | apply IsS158.drew | apply IsS158.set_1 | apply IsS158.set_2) | exact HI208.out)) (kr_ HO211) (by decide)) hk (fun _ h => h.2)) (fun _ h => h.1)); replace HB := Aside0.mk (hb); replace HI208 := Aside0.mk (hi); (try clear hb); (try clear hb2); (try clear hk); (try clear hi)) | ((with_reducible refine gc_ 59 rfl ?_); refine gl_ 17 Try.func59 #[.pointer (some ⟨g208, 0, none⟩)] ?_; (with_reducible refine (spec_l01Cur_vec.calls g208 t205 t218 t219 t220 t221 t222 t223 t224 w _ ?side1 ?side2 A7.out).mono ?_); (case side1 => repeat (first | (with_reducible first | exact HI208.out | apply IsS158.alloc | apply IsS158.drewN | apply IsS158.drew | apply IsS158.set_1 | apply IsS158.set_2) | exact HI208.out)); (case side2 => repeat (first | (with_reducible first | exact HB.out | apply below_alloc | apply pw_below_drewN | apply below_drew1 | refine below_set ?_ (IsS158.ge HI208.out)) | exact HB.out)); rintro e w13 ⟨rfl, hi, hb, hk⟩; refine ⟨_, rfl, ?_⟩; replace HO211 := Aside0.mk (Kd.R_mono (Kd.R_keep (IsS158.apart (show IsS158 w _ g208 t205 t218 t219 from by repeat (first | (with_reducible first | exact HI208.out | apply IsS158.alloc | apply IsS158.drewN | apply IsS158.drew | apply IsS158.set_1 | apply IsS158.set_2) | exact HI208.out)) (kr_ HO211) (by decide)) hk (fun _ h => h.2)) (fun _ h => h.1)); replace HB := Aside0.mk (hb); replace HI208 := Aside0.mk (hi); (try clear hb); (try clear hb2); (try clear hk); (try clear hi)) | ((with_reducible refine gate_builtin (b := .append) (xs := #[.tmp 13, .tmp 19]) rfl ?_); at_builtin; refine Kd.R_append k51 (w0 := w) w.heap.size rfl (.tmp 13) (.tmp 19) 42 51 (.agg #[(.bool false), (.int .i64 0), (.int .i64 0), (.int .i64 0)]) 32 rfl Try.underlying42 info51 rfl (by decide) (by omega) v210 t209 (⟨t217, (⟨t220, t221, t222⟩ : S46)⟩ : S51) [.bool t217, .int .i64 t220, .int .i64 t221, .int .i64 t222] (fun _ => True) (fun _ => False) rfl rfl ?aP (fun _ hk => by first | exact hk.elim | grind) ?aF ?aO ?aB ?aS ?aL ?_; (case aP => exact k51_mkM _ _ _ (⟨t217, (⟨t220, t221, t222⟩ : S46)⟩ : S51)); (case aB => exact (by repeat (first | (with_reducible first | exact HB.out | apply below_alloc | apply pw_below_drewN | apply below_drew1 | refine below_set ?_ (IsS158.ge HI208.out)) | exact HB.out))); (case aF => exact (fun _ _ => trivial)); (case aO => exact (kr_ HO211)); (case aS => exact (below_size (by repeat (first | (with_reducible first | exact HB.out | apply below_alloc | apply pw_below_drewN | apply below_drew1 | refine below_set ?_ (IsS158.ge HI208.out)) | exact HB.out)))); (case aL => have := LMc8.out; omega); intro v226 w14 ho hb hg hat; rw [← Ny225.out] at ho; replace HI208 := Aside0.mk (IsS158.grown (by repeat (first | (with_reducible first | exact HI208.out | apply IsS158.alloc | apply IsS158.drewN | apply IsS158.drew | apply IsS158.set_1 | apply IsS158.set_2) | exact HI208.out)) hg (IsS158.own_ne HI208.out HO211.out (by decide))); replace HB := Aside0.mk (hb); have HO227 := Aside0.mk (ho); clear HO211 ho hb hg hat))
   go_ret
   exact ⟨_, by first | rfl | (simp [errW_none, errW_some] <;> rfl) | (simp [*, errW_none, errW_some] <;> rfl), by (with_reducible repeat (first | apply Kd.R_alloc | apply Kd.R_drewN | apply Kd.R_drew)); exact HO227.out, by repeat (first | (with_reducible first | exact HB.out | apply below_alloc | apply pw_below_drewN | apply below_drew1 | refine below_set ?_ (IsS158.ge HI208.out)) | exact HB.out)⟩
  ·rw [if_neg c8] at H
   exact absurd H (by simp)
 ·rw [if_neg c5] at H
  have c5b0 : (t214 == 0) = false := beq_eq_false_iff_ne.mpr c5
  have c5b1 : (t214 != 0) = true := bne_iff_ne.mpr c5
  by_cases c15 : t214 = 1
  ·rw [if_pos c15] at H
   have c15b0 : (t214 == 1) = true := beq_iff_eq.mpr c15
   have c15b1 : (t214 != 1) = false := bne_eq_false_iff_eq.mpr c15
   clear c15
   have H' := Aside0.mk H
   clear H
   go_enter Try.func20, Try.ntmps20
   go_wp2_with (first | ((with_reducible refine gc_ 55 rfl ?_); refine gl_ 6 Try.func55 #[.slice A0 l0.length c0] ?_; (with_reducible refine (spec_l01Open.calls _ _ l0 t205 t206 t207 w _ ?side1 ?side2 ?side3 A2.out).mono ?_); (case side1 => exact be_ HB); (case side2 => exact HR0.out); (case side3 => exact HC0.out); rintro e w16 ⟨g208, rfl, hi, hb, hb2⟩; refine ⟨_, rfl, ?_⟩; replace HB := Aside0.mk (hb); have HI208 := Aside0.mk (hi); (try clear hb); (try clear hb2); (try clear hk); (try clear hi)) | ((with_reducible refine gc_ 56 rfl ?_); refine gl_ 8 Try.func56 #[.pointer (some ⟨g208, 0, none⟩)] ?_; (with_reducible refine (spec_l01Cur_deeds.calls k g208 t205 t206 t207 t209 t212 t213 w _ ?side1 ?side2 A3.out).mono ?_); (case side1 => repeat (first | (with_reducible first | exact HI208.out | apply IsS158.alloc | apply IsS158.drewN | apply IsS158.drew | apply IsS158.set_1 | apply IsS158.set_2) | exact HI208.out)); (case side2 => repeat (first | (with_reducible first | exact HB.out | apply below_alloc | apply pw_below_drewN | apply below_drew1 | refine below_set ?_ (IsS158.ge HI208.out)) | exact HB.out)); rintro e w17 ⟨v210, rfl, ho0, hi, hb, hk⟩; refine ⟨_, rfl, ?_⟩; have HO211 := Aside0.mk (Kd.R_lower ho0 (below_size (by repeat (first | (with_reducible first | exact HB.out | apply below_alloc | apply pw_below_drewN | apply below_drew1 | refine below_set ?_ (IsS158.ge HI208.out)) | exact HB.out)))); replace HB := Aside0.mk (hb); replace HI208 := Aside0.mk (hi); (try clear hb); (try clear hb2); (try clear hk); (try clear hi); (try clear ho0)) | ((with_reducible refine gc_ 57 rfl ?_); refine gl_ 10 Try.func57 #[.pointer (some ⟨g208, 0, none⟩), .int .i64 12] ?_; (with_reducible refine (spec_l01Cur_pick.calls g208 t205 t212 t213 12 t214 t215 t216 w _ ?side1 ?side2 A4.out).mono ?_); (case side1 => repeat (first | (with_reducible first | exact HI208.out | apply IsS158.alloc | apply IsS158.drewN | apply IsS158.drew | apply IsS158.set_1 | apply IsS158.set_2) | exact HI208.out)); (case side2 => repeat (first | (with_reducible first | exact HB.out | apply below_alloc | apply pw_below_drewN | apply below_drew1 | refine below_set ?_ (IsS158.ge HI208.out)) | exact HB.out)); rintro e w18 ⟨rfl, hi, hb, hk⟩; refine ⟨_, rfl, ?_⟩; replace HO211 := Aside0.mk (Kd.R_mono (Kd.R_keep (IsS158.apart (show IsS158 w _ g208 t205 t212 t213 from by repeat (first | (with_reducible first | exact HI208.out | apply IsS158.alloc | apply IsS158.drewN | apply IsS158.drew | apply IsS158.set_1 | apply IsS158.set_2) | exact HI208.out)) (kr_ HO211) (by decide)) hk (fun _ h => h.2)) (fun _ h => h.1)); replace HB := Aside0.mk (hb); replace HI208 := Aside0.mk (hi); (try clear hb); (try clear hb2); (try clear hk); (try clear hi)))
   go_loopg [4] k (fun kq v4 w' => ∃ (x4_1 : List (S51)) (x209001_1 : Int) (x209002_1 : Int), Aside0 (spec_DrawCarryRun.l0 kq x4_1 t205 x209001_1 x209002_1 = some r) ∧ Aside0 (kq ≤ k) ∧ Aside0 (Kd.R k51 51 w' w.heap.size (fun _ => True) v4 x4_1) ∧ Aside0 (IsS158 w w' g208 t205 x209001_1 x209002_1) ∧ Aside0 (Below w.heap.size w w'))
   case atStart => exact ⟨(t209), (t215), (t216), H', ⟨Nat.le_refl _⟩, ⟨kr_ HO211⟩, ⟨by repeat (first | (with_reducible first | exact HI208.out | apply IsS158.alloc | apply IsS158.drewN | apply IsS158.drew | apply IsS158.set_1 | apply IsS158.set_2) | exact HI208.out)⟩, ⟨by repeat (first | (with_reducible first | exact HB.out | apply below_alloc | apply pw_below_drewN | apply below_drew1 | refine below_set ?_ (IsS158.ge HI208.out)) | exact HB.out)⟩⟩
   case round =>
    clear H'
    (try clear c1); (try clear c2); (try clear p2); (try clear c5); (try clear c5b0); (try clear c5b1); (try clear c8); (try clear c15); (try clear c15b0); (try clear c15b1)
    obtain ⟨x4_1, x209001_1, x209002_1, HA, HK1, HO_4, HI208, HB⟩ := hrel
    cases gk with
    | zero => exact absurd HA.out (by simp [spec_DrawCarryRun.l0])
    | succ k1 =>
     have H := HA.out
     clear HA
     simp only [spec_DrawCarryRun.l0] at H
     replace H := Option.bind_eq_some_iff.mp H
     obtain ⟨⟨t228, t229, t230⟩, A190, H⟩ := H
     replace H : (if (x4_1.length : Int) < (wrap64 (1000 + t228)) then ((spec_l01Cur_cost.f t205 t229 t230 9).bind fun bt231 => (if x4_1.length < 4398046511104 then (spec_DrawCarryRun.l0 k1 (x4_1 ++ [(⟨false, (⟨bt231.1, bt231.2.1, bt231.2.2.1⟩ : S46)⟩ : S51)]) t205 bt231.2.2.2.1 bt231.2.2.2.2) else (none))) else (some x4_1)) = some r := H
     have A19 := Aside0.mk A190
     clear A190
     by_cases c20 : (x4_1.length : Int) < (wrap64 (1000 + t228))
     ·rw [if_pos c20] at H
      have c20b0 : decide ((x4_1.length : Int) < (wrap64 (1000 + t228))) = true := decide_eq_true c20
      clear c20
      replace H := Option.bind_eq_some_iff.mp H
      obtain ⟨⟨t231, t232, t233, t234, t235⟩, A210, H⟩ := H
      replace H : (if x4_1.length < 4398046511104 then (spec_DrawCarryRun.l0 k1 (x4_1 ++ [(⟨false, (⟨t231, t232, t233⟩ : S46)⟩ : S51)]) t205 t234 t235) else (none)) = some r := H
      have A21 := Aside0.mk A210
      clear A210
      by_cases c22 : x4_1.length < 4398046511104
      ·rw [if_pos c22] at H
       have LMc22 := Aside0.mk c22
       clear c22
       obtain ⟨y236, hy236⟩ : ∃ y_ : List (S51), y_ = (x4_1 ++ [(⟨false, (⟨t231, t232, t233⟩ : S46)⟩ : S51)]) := ⟨_, rfl⟩
       replace H : (spec_DrawCarryRun.l0 k1 y236 t205 t234 t235) = some r := by first | (rw [hy236]; with_reducible exact H) | (have H2_ := (Option.bind_some _ _).symm.trans H; rw [hy236]; with_reducible exact H2_) | (have H2_ := (Option.bind_some _ _).symm.trans H; with_reducible exact H2_) | with_reducible exact H | (rw [hy236]; exact H) | exact H
       have Ny236 := Aside0.mk hy236
       clear hy236
       have H' := Aside0.mk H
       clear H
       obtain ⟨Ao23, co23, eo23⟩ := Kd.R_slice HO_4.out
       subst eo23
       go_wp2_with (first | ((with_reducible refine gc_ 57 rfl ?_); refine gl_ 26 Try.func57 #[.pointer (some ⟨g208, 0, none⟩), .int .i64 2] ?_; (with_reducible refine (spec_l01Cur_pick.calls g208 t205 x209001_1 x209002_1 2 t228 t229 t230 w _ ?side1 ?side2 A19.out).mono ?_); (case side1 => repeat (first | (with_reducible first | exact HI208.out | apply IsS158.alloc | apply IsS158.drewN | apply IsS158.drew | apply IsS158.set_1 | apply IsS158.set_2) | exact HI208.out)); (case side2 => repeat (first | (with_reducible first | exact HB.out | apply below_alloc | apply pw_below_drewN | apply below_drew1 | refine below_set ?_ (IsS158.ge HI208.out)) | exact HB.out)); rintro e w24 ⟨rfl, hi, hb, hk⟩; refine ⟨_, rfl, ?_⟩; replace HO_4 := Aside0.mk (Kd.R_mono (Kd.R_keep (IsS158.apart (show IsS158 w _ g208 t205 x209001_1 x209002_1 from by repeat (first | (with_reducible first | exact HI208.out | apply IsS158.alloc | apply IsS158.drewN | apply IsS158.drew | apply IsS158.set_1 | apply IsS158.set_2) | exact HI208.out)) (kr_ HO_4) (by decide)) hk (fun _ h => h.2)) (fun _ h => h.1)); replace HB := Aside0.mk (hb); replace HI208 := Aside0.mk (hi); (try clear hb); (try clear hb2); (try clear hk); (try clear hi)) | ((with_reducible refine gc_ 60 rfl ?_); refine gl_ 31 Try.func60 #[.pointer (some ⟨g208, 0, none⟩), .int .i64 9] ?_; (with_reducible refine (spec_l01Cur_cost.calls g208 t205 t229 t230 9 t231 t232 t233 t234 t235 w _ ?side1 ?side2 A21.out).mono ?_); (case side1 => repeat (first | (with_reducible first | exact HI208.out | apply IsS158.alloc | apply IsS158.drewN | apply IsS158.drew | apply IsS158.set_1 | apply IsS158.set_2) | exact HI208.out)); (case side2 => repeat (first | (with_reducible first | exact HB.out | apply below_alloc | apply pw_below_drewN | apply below_drew1 | refine below_set ?_ (IsS158.ge HI208.out)) | exact HB.out)); rintro e w25 ⟨rfl, hi, hb, hk⟩; refine ⟨_, rfl, ?_⟩; replace HO_4 := Aside0.mk (Kd.R_mono (Kd.R_keep (IsS158.apart (show IsS158 w _ g208 t205 t229 t230 from by repeat (first | (with_reducible first | exact HI208.out | apply IsS158.alloc | apply IsS158.drewN | apply IsS158.drew | apply IsS158.set_1 | apply IsS158.set_2) | exact HI208.out)) (kr_ HO_4) (by decide)) hk (fun _ h => h.2)) (fun _ h => h.1)); replace HB := Aside0.mk (hb); replace HI208 := Aside0.mk (hi); (try clear hb); (try clear hb2); (try clear hk); (try clear hi)) | ((with_reducible refine gate_builtin (b := .append) (xs := #[.tmp 29, .tmp 33]) rfl ?_); at_builtin; refine Kd.R_append k51 (w0 := w) w.heap.size rfl (.tmp 29) (.tmp 33) 42 51 (.agg #[(.bool false), (.int .i64 0), (.int .i64 0), (.int .i64 0)]) 32 rfl Try.underlying42 info51 rfl (by decide) (by omega) (.slice Ao23 x4_1.length co23) x4_1 (⟨false, (⟨t231, t232, t233⟩ : S46)⟩ : S51) [.bool false, .int .i64 t231, .int .i64 t232, .int .i64 t233] (fun _ => True) (fun _ => False) rfl rfl ?aP (fun _ hk => by first | exact hk.elim | grind) ?aF ?aO ?aB ?aS ?aL ?_; (case aP => exact k51_mkM _ _ _ (⟨false, (⟨t231, t232, t233⟩ : S46)⟩ : S51)); (case aB => exact (by repeat (first | (with_reducible first | exact HB.out | apply below_alloc | apply pw_below_drewN | apply below_drew1 | refine below_set ?_ (IsS158.ge HI208.out)) | exact HB.out))); (case aF => exact (fun _ _ => trivial)); (case aO => exact (kr_ HO_4)); (case aS => exact (below_size (by repeat (first | (with_reducible first | exact HB.out | apply below_alloc | apply pw_below_drewN | apply below_drew1 | refine below_set ?_ (IsS158.ge HI208.out)) | exact HB.out)))); (case aL => have := LMc22.out; omega); intro v237 w26 ho hb hg hat; rw [← Ny236.out] at ho; replace HI208 := Aside0.mk (IsS158.grown (by repeat (first | (with_reducible first | exact HI208.out | apply IsS158.alloc | apply IsS158.drewN | apply IsS158.drew | apply IsS158.set_1 | apply IsS158.set_2) | exact HI208.out)) hg (IsS158.own_ne HI208.out HO_4.out (by decide))); replace HB := Aside0.mk (hb); have HO238 := Aside0.mk (ho); clear HO_4 ho hb hg hat))
       go_roundg k1
       case measure => have := HK1.out; omega
       case rel => exact ⟨(y236), (t234), (t235), H', ⟨by have := HK1.out; omega⟩, ⟨kr_ HO238⟩, ⟨by repeat (first | (with_reducible first | exact HI208.out | apply IsS158.alloc | apply IsS158.drewN | apply IsS158.drew | apply IsS158.set_1 | apply IsS158.set_2) | exact HI208.out)⟩, ⟨by repeat (first | (with_reducible first | exact HB.out | apply below_alloc | apply pw_below_drewN | apply below_drew1 | refine below_set ?_ (IsS158.ge HI208.out)) | exact HB.out)⟩⟩
      ·rw [if_neg c22] at H
       exact absurd H (by simp)
     ·rw [if_neg c20] at H
      have c20b0 : decide ((x4_1.length : Int) < (wrap64 (1000 + t228))) = false := decide_eq_false c20
      clear c20
      obtain rfl := Option.some.inj H
      obtain ⟨Ao27, co27, eo27⟩ := Kd.R_slice HO_4.out
      subst eo27
      go_wp2_with (first | ((with_reducible refine gc_ 57 rfl ?_); refine gl_ 26 Try.func57 #[.pointer (some ⟨g208, 0, none⟩), .int .i64 2] ?_; (with_reducible refine (spec_l01Cur_pick.calls g208 t205 x209001_1 x209002_1 2 t228 t229 t230 w _ ?side1 ?side2 A19.out).mono ?_); (case side1 => repeat (first | (with_reducible first | exact HI208.out | apply IsS158.alloc | apply IsS158.drewN | apply IsS158.drew | apply IsS158.set_1 | apply IsS158.set_2) | exact HI208.out)); (case side2 => repeat (first | (with_reducible first | exact HB.out | apply below_alloc | apply pw_below_drewN | apply below_drew1 | refine below_set ?_ (IsS158.ge HI208.out)) | exact HB.out)); rintro e w28 ⟨rfl, hi, hb, hk⟩; refine ⟨_, rfl, ?_⟩; replace HO_4 := Aside0.mk (Kd.R_mono (Kd.R_keep (IsS158.apart (show IsS158 w _ g208 t205 x209001_1 x209002_1 from by repeat (first | (with_reducible first | exact HI208.out | apply IsS158.alloc | apply IsS158.drewN | apply IsS158.drew | apply IsS158.set_1 | apply IsS158.set_2) | exact HI208.out)) (kr_ HO_4) (by decide)) hk (fun _ h => h.2)) (fun _ h => h.1)); replace HB := Aside0.mk (hb); replace HI208 := Aside0.mk (hi); (try clear hb); (try clear hb2); (try clear hk); (try clear hi)))
      go_ret
      exact ⟨_, by first | rfl | (simp [errW_none, errW_some] <;> rfl) | (simp [*, errW_none, errW_some] <;> rfl), by (with_reducible repeat (first | apply Kd.R_alloc | apply Kd.R_drewN | apply Kd.R_drew)); exact HO_4.out, by repeat (first | (with_reducible first | exact HB.out | apply below_alloc | apply pw_below_drewN | apply below_drew1 | refine below_set ?_ (IsS158.ge HI208.out)) | exact HB.out)⟩
  ·rw [if_neg c15] at H
   have c15b0 : (t214 == 1) = false := beq_eq_false_iff_ne.mpr c15
   have c15b1 : (t214 != 1) = true := bne_iff_ne.mpr c15
   by_cases c29 : t214 = 2
   ·rw [if_pos c29] at H
    have c29b0 : (t214 == 2) = true := beq_iff_eq.mpr c29
    have c29b1 : (t214 != 2) = false := bne_eq_false_iff_eq.mpr c29
    clear c29
    replace H := Option.bind_eq_some_iff.mp H
    obtain ⟨⟨t239, t240, t241, t242, t243⟩, A300, H⟩ := H
    replace H : ((some (([(⟨true, (⟨t239, t240, t241⟩ : S46)⟩ : S51)] : List (S51)) : List (S51))).bind fun y244 => (if y244.length + t209.length < 4398046511104 then (some (y244 ++ t209)) else (none))) = some r := H
    have A30 := Aside0.mk A300
    clear A300
    obtain ⟨y244, hy244⟩ : ∃ y_ : List (S51), y_ = (([(⟨true, (⟨t239, t240, t241⟩ : S46)⟩ : S51)] : List (S51))) := ⟨_, rfl⟩
    replace H : (if y244.length + t209.length < 4398046511104 then (some (y244 ++ t209)) else (none)) = some r := by first | (rw [hy244]; with_reducible exact H) | (have H2_ := (Option.bind_some _ _).symm.trans H; rw [hy244]; with_reducible exact H2_) | (have H2_ := (Option.bind_some _ _).symm.trans H; with_reducible exact H2_) | with_reducible exact H | (rw [hy244]; exact H) | exact H
    have Ny244 := Aside0.mk hy244
    clear hy244
    by_cases c31 : y244.length + t209.length < 4398046511104
    ·rw [if_pos c31] at H
     have LMc31 := Aside0.mk c31
     clear c31
     obtain ⟨y247, hy247⟩ : ∃ y_ : List (S51), y_ = (y244 ++ t209) := ⟨_, rfl⟩
     replace H : (some y247) = some r := by first | (rw [hy247]; with_reducible exact H) | (have H2_ := (Option.bind_some _ _).symm.trans H; rw [hy247]; with_reducible exact H2_) | (have H2_ := (Option.bind_some _ _).symm.trans H; with_reducible exact H2_) | with_reducible exact H | (rw [hy247]; exact H) | exact H
     have Ny247 := Aside0.mk hy247
     clear hy247
     obtain rfl := Option.some.inj H
     go_enter Try.func20, Try.ntmps20
     go_wp2_with (first | ((with_reducible refine gc_ 55 rfl ?_); refine gl_ 6 Try.func55 #[.slice A0 l0.length c0] ?_; (with_reducible refine (spec_l01Open.calls _ _ l0 t205 t206 t207 w _ ?side1 ?side2 ?side3 A2.out).mono ?_); (case side1 => exact be_ HB); (case side2 => exact HR0.out); (case side3 => exact HC0.out); rintro e w32 ⟨g208, rfl, hi, hb, hb2⟩; refine ⟨_, rfl, ?_⟩; replace HB := Aside0.mk (hb); have HI208 := Aside0.mk (hi); (try clear hb); (try clear hb2); (try clear hk); (try clear hi)) | ((with_reducible refine gc_ 56 rfl ?_); refine gl_ 8 Try.func56 #[.pointer (some ⟨g208, 0, none⟩)] ?_; (with_reducible refine (spec_l01Cur_deeds.calls k g208 t205 t206 t207 t209 t212 t213 w _ ?side1 ?side2 A3.out).mono ?_); (case side1 => repeat (first | (with_reducible first | exact HI208.out | apply IsS158.alloc | apply IsS158.drewN | apply IsS158.drew | apply IsS158.set_1 | apply IsS158.set_2) | exact HI208.out)); (case side2 => repeat (first | (with_reducible first | exact HB.out | apply below_alloc | apply pw_below_drewN | apply below_drew1 | refine below_set ?_ (IsS158.ge HI208.out)) | exact HB.out)); rintro e w33 ⟨v210, rfl, ho0, hi, hb, hk⟩; refine ⟨_, rfl, ?_⟩; have HO211 := Aside0.mk (Kd.R_lower ho0 (below_size (by repeat (first | (with_reducible first | exact HB.out | apply below_alloc | apply pw_below_drewN | apply below_drew1 | refine below_set ?_ (IsS158.ge HI208.out)) | exact HB.out)))); replace HB := Aside0.mk (hb); replace HI208 := Aside0.mk (hi); (try clear hb); (try clear hb2); (try clear hk); (try clear hi); (try clear ho0)) | ((with_reducible refine gc_ 57 rfl ?_); refine gl_ 10 Try.func57 #[.pointer (some ⟨g208, 0, none⟩), .int .i64 12] ?_; (with_reducible refine (spec_l01Cur_pick.calls g208 t205 t212 t213 12 t214 t215 t216 w _ ?side1 ?side2 A4.out).mono ?_); (case side1 => repeat (first | (with_reducible first | exact HI208.out | apply IsS158.alloc | apply IsS158.drewN | apply IsS158.drew | apply IsS158.set_1 | apply IsS158.set_2) | exact HI208.out)); (case side2 => repeat (first | (with_reducible first | exact HB.out | apply below_alloc | apply pw_below_drewN | apply below_drew1 | refine below_set ?_ (IsS158.ge HI208.out)) | exact HB.out)); rintro e w34 ⟨rfl, hi, hb, hk⟩; refine ⟨_, rfl, ?_⟩; replace HO211 := Aside0.mk (Kd.R_mono (Kd.R_keep (IsS158.apart (show IsS158 w _ g208 t205 t212 t213 from by repeat (first | (with_reducible first | exact HI208.out | apply IsS158.alloc | apply IsS158.drewN | apply IsS158.drew | apply IsS158.set_1 | apply IsS158.set_2) | exact HI208.out)) (kr_ HO211) (by decide)) hk (fun _ h => h.2)) (fun _ h => h.1)); replace HB := Aside0.mk (hb); replace HI208 := Aside0.mk (hi); (try clear hb); (try clear hb2); (try clear hk); (try clear hi)) | ((with_reducible refine gc_ 60 rfl ?_); refine gl_ 38 Try.func60 #[.pointer (some ⟨g208, 0, none⟩), .int .i64 9] ?_; (with_reducible refine (spec_l01Cur_cost.calls g208 t205 t215 t216 9 t239 t240 t241 t242 t243 w _ ?side1 ?side2 A30.out).mono ?_); (case side1 => repeat (first | (with_reducible first | exact HI208.out | apply IsS158.alloc | apply IsS158.drewN | apply IsS158.drew | apply IsS158.set_1 | apply IsS158.set_2) | exact HI208.out)); (case side2 => repeat (first | (with_reducible first | exact HB.out | apply below_alloc | apply pw_below_drewN | apply below_drew1 | refine below_set ?_ (IsS158.ge HI208.out)) | exact HB.out)); rintro e w35 ⟨rfl, hi, hb, hk⟩; refine ⟨_, rfl, ?_⟩; replace HO211 := Aside0.mk (Kd.R_mono (Kd.R_keep (IsS158.apart (show IsS158 w _ g208 t205 t215 t216 from by repeat (first | (with_reducible first | exact HI208.out | apply IsS158.alloc | apply IsS158.drewN | apply IsS158.drew | apply IsS158.set_1 | apply IsS158.set_2) | exact HI208.out)) (kr_ HO211) (by decide)) hk (fun _ h => h.2)) (fun _ h => h.1)); replace HB := Aside0.mk (hb); replace HI208 := Aside0.mk (hi); (try clear hb); (try clear hb2); (try clear hk); (try clear hi)) | ((with_reducible refine gd_ 40 rfl ?_); refine Kd.R_lit k51 _ 51 ?hg (N := 40) ?hd (xs := ([(⟨true, (⟨t239, t240, t241⟩ : S46)⟩ : S51)] : List (S51))) (inner := [.bool true, .int .i64 t239, .int .i64 t240, .int .i64 t241]) (ok := fun _ => True) (okp := fun _ => True) ?hr ?hp (fun _ hk => by first | exact hk | grind) trivial (Below.refl _ _) (Nat.le_refl _) (by simp) ?_; (case hd => rfl); (case hg => rfl); (case hr => first | (go_simp; done) | (go_simp; rfl)); (case hp => exact (Reps.c4 (show Kd.M k51 _ _ _ (⟨true, (⟨t239, t240, t241⟩ : S46)⟩ : S51) [.bool true, .int .i64 t239, .int .i64 t240, .int .i64 t241] from (k51_mkM _ _ _ (⟨true, (⟨t239, t240, t241⟩ : S46)⟩ : S51) )) (Reps.none _ _))); intro v245 w36 ho37 hb hg_ hnew_; clear hg_ hnew_; (first | rw [← Ny244.out] at ho37 | (simp only [Int.reduceToNat] at ho37; rw [← Ny244.out] at ho37)); have HO246 := Aside0.mk (Kd.R_lower (Kd.R_new' ho37 (Kd.R_lt (kr_ HO211))) (below_size (by repeat (first | (with_reducible first | exact HB.out | apply below_alloc | apply pw_below_drewN | apply below_drew1 | refine below_set ?_ (IsS158.ge HI208.out)) | exact HB.out)))); replace HO211 := Aside0.mk (Kd.R_elder' (kr_ HO211) (Kd.R_base ho37) hb); replace HB := Aside0.mk (below_step (by repeat (first | (with_reducible first | exact HB.out | apply below_alloc | apply pw_below_drewN | apply below_drew1 | refine below_set ?_ (IsS158.ge HI208.out)) | exact HB.out)) hb); replace HI208 := Aside0.mk (IsS158.below (by repeat (first | (with_reducible first | exact HI208.out | apply IsS158.alloc | apply IsS158.drewN | apply IsS158.drew | apply IsS158.set_1 | apply IsS158.set_2) | exact HI208.out)) hb); clear hb ho37; obtain ⟨Ao39, co39, eo39⟩ := Kd.R_slice HO211.out; subst eo39) | ((with_reducible refine gate_builtin (b := .append) (xs := #[.tmp 40, .tmp 41]) rfl ?_); at_builtin; refine Kd.R_append_rows k51 (w0 := w) w.heap.size rfl (.tmp 40) (.tmp 41) 42 51 (.agg #[(.bool false), (.int .i64 0), (.int .i64 0), (.int .i64 0)]) 32 rfl Try.underlying42 info51 rfl (by decide) (by omega) v245 y244 t209 _ _ _ (fun k_ => some k_ ≠ (.slice Ao39 t209.length co39 : Value).ownBlock) (fun _ => False) rfl rfl ?aO ?aR (fun _ _ h => h) (fun _ h => h.elim) ?aF ?aB ?aS ?aL ?_; (case aR => exact cr_ HO211); (case aB => exact (by repeat (first | (with_reducible first | exact HB.out | apply below_alloc | apply pw_below_drewN | apply below_drew1 | refine below_set ?_ (IsS158.ge HI208.out)) | exact HB.out))); (case aF => exact (fun k_ hk => by first | exact Kd.fresh' (Kd.R_lt (kr_ HO211)) k_ hk | grind)); (case aO => exact (by (with_reducible repeat (first | apply Kd.R_alloc | apply Kd.R_drewN | apply Kd.R_drew)); exact Kd.R_mono HO246.out (fun _ hk => by first | exact hk.2 | grind))); (case aS => exact (below_size (by repeat (first | (with_reducible first | exact HB.out | apply below_alloc | apply pw_below_drewN | apply below_drew1 | refine below_set ?_ (IsS158.ge HI208.out)) | exact HB.out)))); (case aL => have := LMc31.out; omega); intro v248 w38 ho hb hg hat; rw [← Ny247.out] at ho; replace HI208 := Aside0.mk (IsS158.grown (by repeat (first | (with_reducible first | exact HI208.out | apply IsS158.alloc | apply IsS158.drewN | apply IsS158.drew | apply IsS158.set_1 | apply IsS158.set_2) | exact HI208.out)) hg (IsS158.own_ne HI208.out HO246.out (by decide))); replace HO211 := Aside0.mk (Kd.R_after (ok := (fun _ => True)) (kr_ HO211) hg hat); replace HB := Aside0.mk (hb); have HO249 := Aside0.mk (ho); clear HO246 ho hb hg hat))
     go_ret
     exact ⟨_, by first | rfl | (simp [errW_none, errW_some] <;> rfl) | (simp [*, errW_none, errW_some] <;> rfl), by (with_reducible repeat (first | apply Kd.R_alloc | apply Kd.R_drewN | apply Kd.R_drew)); exact Kd.R_mono HO249.out (fun _ hk => by first | exact trivial | grind), by repeat (first | (with_reducible first | exact HB.out | apply below_alloc | apply pw_below_drewN | apply below_drew1 | refine below_set ?_ (IsS158.ge HI208.out)) | exact HB.out)⟩
    ·rw [if_neg c31] at H
     exact absurd H (by simp)
   ·rw [if_neg c29] at H
    have c29b0 : (t214 == 2) = false := beq_eq_false_iff_ne.mpr c29
    have c29b1 : (t214 != 2) = true := bne_iff_ne.mpr c29
    obtain rfl := Option.some.inj H
    go_enter Try.func20, Try.ntmps20
    go_wp2_with (first | ((with_reducible refine gc_ 55 rfl ?_); refine gl_ 6 Try.func55 #[.slice A0 l0.length c0] ?_; (with_reducible refine (spec_l01Open.calls _ _ l0 t205 t206 t207 w _ ?side1 ?side2 ?side3 A2.out).mono ?_); (case side1 => exact be_ HB); (case side2 => exact HR0.out); (case side3 => exact HC0.out); rintro e w40 ⟨g208, rfl, hi, hb, hb2⟩; refine ⟨_, rfl, ?_⟩; replace HB := Aside0.mk (hb); have HI208 := Aside0.mk (hi); (try clear hb); (try clear hb2); (try clear hk); (try clear hi)) | ((with_reducible refine gc_ 56 rfl ?_); refine gl_ 8 Try.func56 #[.pointer (some ⟨g208, 0, none⟩)] ?_; (with_reducible refine (spec_l01Cur_deeds.calls k g208 t205 t206 t207 t209 t212 t213 w _ ?side1 ?side2 A3.out).mono ?_); (case side1 => repeat (first | (with_reducible first | exact HI208.out | apply IsS158.alloc | apply IsS158.drewN | apply IsS158.drew | apply IsS158.set_1 | apply IsS158.set_2) | exact HI208.out)); (case side2 => repeat (first | (with_reducible first | exact HB.out | apply below_alloc | apply pw_below_drewN | apply below_drew1 | refine below_set ?_ (IsS158.ge HI208.out)) | exact HB.out)); rintro e w41 ⟨v210, rfl, ho0, hi, hb, hk⟩; refine ⟨_, rfl, ?_⟩; have HO211 := Aside0.mk (Kd.R_lower ho0 (below_size (by repeat (first | (with_reducible first | exact HB.out | apply below_alloc | apply pw_below_drewN | apply below_drew1 | refine below_set ?_ (IsS158.ge HI208.out)) | exact HB.out)))); replace HB := Aside0.mk (hb); replace HI208 := Aside0.mk (hi); (try clear hb); (try clear hb2); (try clear hk); (try clear hi); (try clear ho0)) | ((with_reducible refine gc_ 57 rfl ?_); refine gl_ 10 Try.func57 #[.pointer (some ⟨g208, 0, none⟩), .int .i64 12] ?_; (with_reducible refine (spec_l01Cur_pick.calls g208 t205 t212 t213 12 t214 t215 t216 w _ ?side1 ?side2 A4.out).mono ?_); (case side1 => repeat (first | (with_reducible first | exact HI208.out | apply IsS158.alloc | apply IsS158.drewN | apply IsS158.drew | apply IsS158.set_1 | apply IsS158.set_2) | exact HI208.out)); (case side2 => repeat (first | (with_reducible first | exact HB.out | apply below_alloc | apply pw_below_drewN | apply below_drew1 | refine below_set ?_ (IsS158.ge HI208.out)) | exact HB.out)); rintro e w42 ⟨rfl, hi, hb, hk⟩; refine ⟨_, rfl, ?_⟩; replace HO211 := Aside0.mk (Kd.R_mono (Kd.R_keep (IsS158.apart (show IsS158 w _ g208 t205 t212 t213 from by repeat (first | (with_reducible first | exact HI208.out | apply IsS158.alloc | apply IsS158.drewN | apply IsS158.drew | apply IsS158.set_1 | apply IsS158.set_2) | exact HI208.out)) (kr_ HO211) (by decide)) hk (fun _ h => h.2)) (fun _ h => h.1)); replace HB := Aside0.mk (hb); replace HI208 := Aside0.mk (hi); (try clear hb); (try clear hb2); (try clear hk); (try clear hi)))
    go_ret
    exact ⟨_, by first | rfl | (simp [errW_none, errW_some] <;> rfl) | (simp [*, errW_none, errW_some] <;> rfl), by (with_reducible repeat (first | apply Kd.R_alloc | apply Kd.R_drewN | apply Kd.R_drew)); exact HO211.out, by repeat (first | (with_reducible first | exact HB.out | apply below_alloc | apply pw_below_drewN | apply below_drew1 | refine below_set ?_ (IsS158.ge HI208.out)) | exact HB.out)⟩

/-! ### spec_l13All: function 124 -/
def spec_l13All.f (a0_0 : Int) (a0_1 : Int) (a0_2 : Int) (a1 : Int) (a2 : Int) : Option (Bool) := if a0_0 ≥ a1 then (if a0_0 ≤ a2 then (if a0_1 ≥ a1 then (if a0_1 ≤ a2 then (if a0_2 ≥ a1 then (some (decide (a0_2 ≤ a2))) else (some false)) else (some false)) else (some false)) else (some false)) else (some false)
set_option maxHeartbeats 8000000 in
set_option maxRecDepth 100000 in
theorem spec_l13All.calls (a0_0 : Int) (a0_1 : Int) (a0_2 : Int) (a1 : Int) (a2 : Int) (r : Bool) (w : World) (h : spec_l13All.f a0_0 a0_1 a0_2 a1 a2 = some r) :
  Calls Try.prog 124 #[.agg #[.int .i64 a0_0, .int .i64 a0_1, .int .i64 a0_2], .int .i64 a1, .int .i64 a2] w fun e w' => e = .returned (.bool r) ∧ Below w.heap.size w w' := by
 have hu46 := Try.underlying46; have HB := Aside0.mk (Below.refl w.heap.size w)
 have H : (if a0_0 ≥ a1 then (if a0_0 ≤ a2 then (if a0_1 ≥ a1 then (if a0_1 ≤ a2 then (if a0_2 ≥ a1 then (some (decide (a0_2 ≤ a2))) else (some false)) else (some false)) else (some false)) else (some false)) else (some false)) = some r := h
 clear h
 by_cases c4 : a0_0 ≥ a1
 ·rw [if_pos c4] at H
  have c4b0 : decide (a1 ≤ a0_0) = true := decide_eq_true c4
  clear c4
  by_cases c5 : a0_0 ≤ a2
  ·rw [if_pos c5] at H
   have c5b0 : decide (a0_0 ≤ a2) = true := decide_eq_true c5
   clear c5
   by_cases c6 : a0_1 ≥ a1
   ·rw [if_pos c6] at H
    have c6b0 : decide (a1 ≤ a0_1) = true := decide_eq_true c6
    clear c6
    by_cases c7 : a0_1 ≤ a2
    ·rw [if_pos c7] at H
     have c7b0 : decide (a0_1 ≤ a2) = true := decide_eq_true c7
     clear c7
     by_cases c8 : a0_2 ≥ a1
     ·rw [if_pos c8] at H
      have c8b0 : decide (a1 ≤ a0_2) = true := decide_eq_true c8
      clear c8
      obtain rfl := Option.some.inj H
      go_enter Try.func124, Try.ntmps124
      go_wp2_with (first | ((with_reducible refine gd_ 3 rfl ?_); refine bv_ 3 #[.int .i64 a0_0, .int .i64 a0_1, .int .i64 a0_2] 46 ?_; intro gb250 hg w9 hbox hb; have BK250 := Aside0.mk (hbox); have GW250 := gw_ HB hg; have GE250 := gw_ HB hg; replace HB := Aside0.mk (below_step (be_ HB) hb); clear hb hbox hg; obtain ⟨hcz10_0, hcz10_1, hcz10_2, hfz10_0, hfz10_1, hfz10_2⟩ := bz3_ BK250))
      go_ret
      exact ⟨by first | rfl | (simp [errW_none, errW_some] <;> rfl) | (simp [*, errW_none, errW_some] <;> rfl), bf_ HB⟩
     ·rw [if_neg c8] at H
      have c8b0 : decide (a1 ≤ a0_2) = false := decide_eq_false c8
      clear c8
      obtain rfl := Option.some.inj H
      go_enter Try.func124, Try.ntmps124
      go_wp2_with (first | ((with_reducible refine gd_ 3 rfl ?_); refine bv_ 3 #[.int .i64 a0_0, .int .i64 a0_1, .int .i64 a0_2] 46 ?_; intro gb250 hg w11 hbox hb; have BK250 := Aside0.mk (hbox); have GW250 := gw_ HB hg; have GE250 := gw_ HB hg; replace HB := Aside0.mk (below_step (be_ HB) hb); clear hb hbox hg; obtain ⟨hcz12_0, hcz12_1, hcz12_2, hfz12_0, hfz12_1, hfz12_2⟩ := bz3_ BK250))
      go_ret
      exact ⟨by first | rfl | (simp [errW_none, errW_some] <;> rfl) | (simp [*, errW_none, errW_some] <;> rfl), bf_ HB⟩
    ·rw [if_neg c7] at H
     have c7b0 : decide (a0_1 ≤ a2) = false := decide_eq_false c7
     clear c7
     obtain rfl := Option.some.inj H
     go_enter Try.func124, Try.ntmps124
     go_wp2_with (first | ((with_reducible refine gd_ 3 rfl ?_); refine bv_ 3 #[.int .i64 a0_0, .int .i64 a0_1, .int .i64 a0_2] 46 ?_; intro gb250 hg w13 hbox hb; have BK250 := Aside0.mk (hbox); have GW250 := gw_ HB hg; have GE250 := gw_ HB hg; replace HB := Aside0.mk (below_step (be_ HB) hb); clear hb hbox hg; obtain ⟨hcz14_0, hcz14_1, hcz14_2, hfz14_0, hfz14_1, hfz14_2⟩ := bz3_ BK250))
     go_ret
     exact ⟨by first | rfl | (simp [errW_none, errW_some] <;> rfl) | (simp [*, errW_none, errW_some] <;> rfl), bf_ HB⟩
   ·rw [if_neg c6] at H
    have c6b0 : decide (a1 ≤ a0_1) = false := decide_eq_false c6
    clear c6
    obtain rfl := Option.some.inj H
    go_enter Try.func124, Try.ntmps124
    go_wp2_with (first | ((with_reducible refine gd_ 3 rfl ?_); refine bv_ 3 #[.int .i64 a0_0, .int .i64 a0_1, .int .i64 a0_2] 46 ?_; intro gb250 hg w15 hbox hb; have BK250 := Aside0.mk (hbox); have GW250 := gw_ HB hg; have GE250 := gw_ HB hg; replace HB := Aside0.mk (below_step (be_ HB) hb); clear hb hbox hg; obtain ⟨hcz16_0, hcz16_1, hcz16_2, hfz16_0, hfz16_1, hfz16_2⟩ := bz3_ BK250))
    go_ret
    exact ⟨by first | rfl | (simp [errW_none, errW_some] <;> rfl) | (simp [*, errW_none, errW_some] <;> rfl), bf_ HB⟩
  ·rw [if_neg c5] at H
   have c5b0 : decide (a0_0 ≤ a2) = false := decide_eq_false c5
   clear c5
   obtain rfl := Option.some.inj H
   go_enter Try.func124, Try.ntmps124
   go_wp2_with (first | ((with_reducible refine gd_ 3 rfl ?_); refine bv_ 3 #[.int .i64 a0_0, .int .i64 a0_1, .int .i64 a0_2] 46 ?_; intro gb250 hg w17 hbox hb; have BK250 := Aside0.mk (hbox); have GW250 := gw_ HB hg; have GE250 := gw_ HB hg; replace HB := Aside0.mk (below_step (be_ HB) hb); clear hb hbox hg; obtain ⟨hcz18_0, hcz18_1, hcz18_2, hfz18_0, hfz18_1, hfz18_2⟩ := bz3_ BK250))
   go_ret
   exact ⟨by first | rfl | (simp [errW_none, errW_some] <;> rfl) | (simp [*, errW_none, errW_some] <;> rfl), bf_ HB⟩
 ·rw [if_neg c4] at H
  have c4b0 : decide (a1 ≤ a0_0) = false := decide_eq_false c4
  clear c4
  obtain rfl := Option.some.inj H
  go_enter Try.func124, Try.ntmps124
  go_wp2_with (first | ((with_reducible refine gd_ 3 rfl ?_); refine bv_ 3 #[.int .i64 a0_0, .int .i64 a0_1, .int .i64 a0_2] 46 ?_; intro gb250 hg w19 hbox hb; have BK250 := Aside0.mk (hbox); have GW250 := gw_ HB hg; have GE250 := gw_ HB hg; replace HB := Aside0.mk (below_step (be_ HB) hb); clear hb hbox hg; obtain ⟨hcz20_0, hcz20_1, hcz20_2, hfz20_0, hfz20_1, hfz20_2⟩ := bz3_ BK250))
  go_ret
  exact ⟨by first | rfl | (simp [errW_none, errW_some] <;> rfl) | (simp [*, errW_none, errW_some] <;> rfl), bf_ HB⟩

/-! ### spec_CostOk: function 61 -/
def spec_CostOk.f (a0_0 : Int) (a0_1 : Int) (a0_2 : Int) : Option (Bool) := (spec_l13All.f a0_0 a0_1 a0_2 1 1000).bind fun t252 => (some t252)
set_option maxHeartbeats 8000000 in
set_option maxRecDepth 100000 in
theorem spec_CostOk.calls (a0_0 : Int) (a0_1 : Int) (a0_2 : Int) (r : Bool) (w : World) (h : spec_CostOk.f a0_0 a0_1 a0_2 = some r) :
  Calls Try.prog 61 #[.agg #[.int .i64 a0_0, .int .i64 a0_1, .int .i64 a0_2]] w fun e w' => e = .returned (.bool r) ∧ Below w.heap.size w w' := by
 have hu46 := Try.underlying46; have HB := Aside0.mk (Below.refl w.heap.size w)
 have H : ((spec_l13All.f a0_0 a0_1 a0_2 1 1000).bind fun t252 => (some t252)) = some r := h
 clear h
 replace H := Option.bind_eq_some_iff.mp H
 obtain ⟨t252, A20, H⟩ := H
 replace H : (some t252) = some r := H
 have A2 := Aside0.mk A20
 clear A20
 obtain rfl := Option.some.inj H
 go_enter Try.func61, Try.ntmps61
 go_wp2_with (first | ((with_reducible refine gd_ 1 rfl ?_); refine bv_ 1 #[.int .i64 a0_0, .int .i64 a0_1, .int .i64 a0_2] 46 ?_; intro gb251 hg w3 hbox hb; have BK251 := Aside0.mk (hbox); have GW251 := gw_ HB hg; have GE251 := gw_ HB hg; replace HB := Aside0.mk (below_step (be_ HB) hb); clear hb hbox hg; obtain ⟨hcz4_0, hcz4_1, hcz4_2, hfz4_0, hfz4_1, hfz4_2⟩ := bz3_ BK251) | ((with_reducible refine gc_ 124 rfl ?_); refine gl_ 4 Try.func124 #[.agg #[.int .i64 a0_0, .int .i64 a0_1, .int .i64 a0_2], .int .i64 1, .int .i64 1000] ?_; (with_reducible refine (spec_l13All.calls a0_0 a0_1 a0_2 1 1000 t252 _ A2.out).mono ?_); rintro e w5 ⟨rfl, hb⟩; refine ⟨_, rfl, ?_⟩; replace BK251 := bb_ BK251 hb; replace HB := Aside0.mk (below_step (bf_ HB) hb); (try clear hb); (try clear hb2); (try clear hk); (try clear hi)))
 go_ret
 exact ⟨by first | rfl | (simp [errW_none, errW_some] <;> rfl) | (simp [*, errW_none, errW_some] <;> rfl), bf_ HB⟩

/-! ### spec_CarryOk: function 125 -/
def spec_CarryOk.f (a0_0 : Int) (a0_1 : Int) (a0_2 : Int) : Option (Bool) := (spec_l13All.f a0_0 a0_1 a0_2 (-1000000) 1000000).bind fun t254 => (some t254)
set_option maxHeartbeats 8000000 in
set_option maxRecDepth 100000 in
theorem spec_CarryOk.calls (a0_0 : Int) (a0_1 : Int) (a0_2 : Int) (r : Bool) (w : World) (h : spec_CarryOk.f a0_0 a0_1 a0_2 = some r) :
  Calls Try.prog 125 #[.agg #[.int .i64 a0_0, .int .i64 a0_1, .int .i64 a0_2]] w fun e w' => e = .returned (.bool r) ∧ Below w.heap.size w w' := by
 have hu46 := Try.underlying46; have HB := Aside0.mk (Below.refl w.heap.size w)
 have H : ((spec_l13All.f a0_0 a0_1 a0_2 (-1000000) 1000000).bind fun t254 => (some t254)) = some r := h
 clear h
 replace H := Option.bind_eq_some_iff.mp H
 obtain ⟨t254, A20, H⟩ := H
 replace H : (some t254) = some r := H
 have A2 := Aside0.mk A20
 clear A20
 obtain rfl := Option.some.inj H
 go_enter Try.func125, Try.ntmps125
 go_wp2_with (first | ((with_reducible refine gd_ 1 rfl ?_); refine bv_ 1 #[.int .i64 a0_0, .int .i64 a0_1, .int .i64 a0_2] 46 ?_; intro gb253 hg w3 hbox hb; have BK253 := Aside0.mk (hbox); have GW253 := gw_ HB hg; have GE253 := gw_ HB hg; replace HB := Aside0.mk (below_step (be_ HB) hb); clear hb hbox hg; obtain ⟨hcz4_0, hcz4_1, hcz4_2, hfz4_0, hfz4_1, hfz4_2⟩ := bz3_ BK253) | ((with_reducible refine gc_ 124 rfl ?_); refine gl_ 4 Try.func124 #[.agg #[.int .i64 a0_0, .int .i64 a0_1, .int .i64 a0_2], .int .i64 (-1000000), .int .i64 1000000] ?_; (with_reducible refine (spec_l13All.calls a0_0 a0_1 a0_2 (-1000000) 1000000 t254 _ A2.out).mono ?_); rintro e w5 ⟨rfl, hb⟩; refine ⟨_, rfl, ?_⟩; replace BK253 := bb_ BK253 hb; replace HB := Aside0.mk (below_step (bf_ HB) hb); (try clear hb); (try clear hb2); (try clear hk); (try clear hi)))
 go_ret
 exact ⟨by first | rfl | (simp [errW_none, errW_some] <;> rfl) | (simp [*, errW_none, errW_some] <;> rfl), bf_ HB⟩

/-! ### spec_Settle: function 62 -/
def spec_Settle.j0 : Nat → Bool → Int → Int → Int → Int → Int → Int → Int → Int → Int → Option (Int × Int × Int × Bool)
  | 0, _, _, _, _, _, _, _, _, _, _ => none
  | k + 1, x21, x256000, x256001, x256002, x257000, x257001, x257002, x258000, x258001, x258002 => if x21 = true then (some (0, 0, 0, false)) else ((spec_CarryOk.f (wrap64 ((wrap64 (x256000 + x258000)) - x257000)) (wrap64 ((wrap64 (x256001 + x258001)) - x257001)) (wrap64 ((wrap64 (x256002 + x258002)) - x257002))).bind fun t263 => (if t263 = true then (some (wrap64 ((wrap64 (x256000 + x258000)) - x257000), wrap64 ((wrap64 (x256001 + x258001)) - x257001), wrap64 ((wrap64 (x256002 + x258002)) - x257002), true)) else (some (0, 0, 0, false))))
def spec_Settle.f (k : Nat) (a0_0 : Int) (a0_1 : Int) (a0_2 : Int) (a1_0 : Int) (a1_1 : Int) (a1_2 : Int) (a2_0 : Int) (a2_1 : Int) (a2_2 : Int) : Option (Int × Int × Int × Bool) := (spec_CarryOk.f a0_0 a0_1 a0_2).bind fun t259 => (if t259 = true then ((spec_CostOk.f a1_0 a1_1 a1_2).bind fun t260 => (if t260 = true then ((spec_CostOk.f a2_0 a2_1 a2_2).bind fun t261 => (spec_Settle.j0 k (!t261) a0_0 a0_1 a0_2 a1_0 a1_1 a1_2 a2_0 a2_1 a2_2)) else (spec_Settle.j0 k true a0_0 a0_1 a0_2 a1_0 a1_1 a1_2 a2_0 a2_1 a2_2))) else (spec_Settle.j0 k true a0_0 a0_1 a0_2 a1_0 a1_1 a1_2 a2_0 a2_1 a2_2))
theorem spec_Settle.mono_l : ∀ k, (∀ y0 y1 y2 y3 y4 y5 y6 y7 y8 y9, LeO (spec_Settle.j0 k y0 y1 y2 y3 y4 y5 y6 y7 y8 y9) (spec_Settle.j0 (k + 1) y0 y1 y2 y3 y4 y5 y6 y7 y8 y9))
 | 0 => fun _ _ _ _ _ _ _ _ _ _ r h => by simp [spec_Settle.j0] at h
 | k + 1 => by
  have ih0 := spec_Settle.mono_l k
  ·intro y0 y1 y2 y3 y4 y5 y6 y7 y8 y9
   unfold spec_Settle.j0
   repeat' first
   | (with_reducible exact ih0 _ _ _ _ _ _ _ _ _ _)
   | (with_reducible exact LeO.refl _)
   | (with_reducible exact LeO.none _)
   | (with_reducible refine LeO.ite ?_ ?_)
   | (with_reducible refine LeO.bind ?_ (fun _ => ?_))
   | exact ih0 _ _ _ _ _ _ _ _ _ _
   | exact LeO.none _
   | refine LeO.ite ?_ ?_
   | refine LeO.bind ?_ (fun _ => ?_)
theorem spec_Settle.mono : ∀ a0 a1 a2 a3 a4 a5 a6 a7 a8 k, LeO (spec_Settle.f k a0 a1 a2 a3 a4 a5 a6 a7 a8) (spec_Settle.f (k + 1) a0 a1 a2 a3 a4 a5 a6 a7 a8) := by
 intro a0 a1 a2 a3 a4 a5 a6 a7 a8 k
 have ih0 := spec_Settle.mono_l k
 unfold spec_Settle.f
 repeat' first
   | (with_reducible exact ih0 _ _ _ _ _ _ _ _ _ _)
   | (with_reducible exact LeO.refl _)
   | (with_reducible exact LeO.none _)
   | (with_reducible refine LeO.ite ?_ ?_)
   | (with_reducible refine LeO.bind ?_ (fun _ => ?_))
   | exact ih0 _ _ _ _ _ _ _ _ _ _
   | exact LeO.none _
   | refine LeO.ite ?_ ?_
   | refine LeO.bind ?_ (fun _ => ?_)
set_option maxHeartbeats 8000000 in
set_option maxRecDepth 100000 in
theorem spec_Settle.calls (k : Nat) (a0_0 : Int) (a0_1 : Int) (a0_2 : Int) (a1_0 : Int) (a1_1 : Int) (a1_2 : Int) (a2_0 : Int) (a2_1 : Int) (a2_2 : Int) (r1 : Int) (r2 : Int) (r3 : Int) (r4 : Bool) (w : World) (h : spec_Settle.f k a0_0 a0_1 a0_2 a1_0 a1_1 a1_2 a2_0 a2_1 a2_2 = some (r1, r2, r3, r4)) :
  Calls Try.prog 62 #[.agg #[.int .i64 a0_0, .int .i64 a0_1, .int .i64 a0_2], .agg #[.int .i64 a1_0, .int .i64 a1_1, .int .i64 a1_2], .agg #[.int .i64 a2_0, .int .i64 a2_1, .int .i64 a2_2]] w fun e w' => e = .returned (.tuple #[.agg #[.int .i64 r1, .int .i64 r2, .int .i64 r3], .bool r4]) ∧ Below w.heap.size w w' := by
 have hu46 := Try.underlying46; have HB := Aside0.mk (Below.refl w.heap.size w)
 have H : ((spec_CarryOk.f a0_0 a0_1 a0_2).bind fun t259 => (if t259 = true then ((spec_CostOk.f a1_0 a1_1 a1_2).bind fun t260 => (if t260 = true then ((spec_CostOk.f a2_0 a2_1 a2_2).bind fun t261 => (spec_Settle.j0 k (!t261) a0_0 a0_1 a0_2 a1_0 a1_1 a1_2 a2_0 a2_1 a2_2)) else (spec_Settle.j0 k true a0_0 a0_1 a0_2 a1_0 a1_1 a1_2 a2_0 a2_1 a2_2))) else (spec_Settle.j0 k true a0_0 a0_1 a0_2 a1_0 a1_1 a1_2 a2_0 a2_1 a2_2))) = some (r1, r2, r3, r4) := h
 clear h
 have HC4 := Aside0.mk H
 clear H
 go_enter Try.func62, Try.ntmps62
 go_upto_region 1 with (first | ((with_reducible refine gd_ 3 rfl ?_); refine bv_ 3 #[.int .i64 a0_0, .int .i64 a0_1, .int .i64 a0_2] 46 ?_; intro gb255 hg w5 hbox hb; have BK255 := Aside0.mk (hbox); have GW255 := gw_ HB hg; have GE255 := gw_ HB hg; replace HB := Aside0.mk (below_step (be_ HB) hb); clear hb hbox hg) | ((with_reducible refine gd_ 4 rfl ?_); refine bv_ 4 #[.int .i64 a1_0, .int .i64 a1_1, .int .i64 a1_2] 46 ?_; intro gb256 hg w6 hbox hb; have BK256 := Aside0.mk (hbox); have GW256 := gw_ HB hg; have GE256 := gw_ HB hg; replace HB := Aside0.mk (below_step (bf_ HB) hb); have NB255_256 := nl_ BK255 hg; have NB256_255 := ng_ BK255 hg; replace BK255 := bb_ BK255 hb; clear hb hbox hg) | ((with_reducible refine gd_ 5 rfl ?_); refine bv_ 5 #[.int .i64 a2_0, .int .i64 a2_1, .int .i64 a2_2] 46 ?_; intro gb257 hg w7 hbox hb; have BK257 := Aside0.mk (hbox); have GW257 := gw_ HB hg; have GE257 := gw_ HB hg; replace HB := Aside0.mk (below_step (bf_ HB) hb); have NB255_257 := nl_ BK255 hg; have NB257_255 := ng_ BK255 hg; replace BK255 := bb_ BK255 hb; have NB256_257 := nl_ BK256 hg; have NB257_256 := ng_ BK256 hg; replace BK256 := bb_ BK256 hb; clear hb hbox hg) | ((with_reducible refine gd_ 6 rfl ?_); refine bv_ 6 #[.int .i64 0, .int .i64 0, .int .i64 0] 46 ?_; intro gb258 hg w8 hbox hb; have BK258 := Aside0.mk (hbox); have GW258 := gw_ HB hg; have GE258 := gw_ HB hg; replace HB := Aside0.mk (below_step (bf_ HB) hb); have NB255_258 := nl_ BK255 hg; have NB258_255 := ng_ BK255 hg; replace BK255 := bb_ BK255 hb; have NB256_258 := nl_ BK256 hg; have NB258_256 := ng_ BK256 hg; replace BK256 := bb_ BK256 hb; have NB257_258 := nl_ BK257 hg; have NB258_257 := ng_ BK257 hg; replace BK257 := bb_ BK257 hb; clear hb hbox hg))
 (try simp only [Act.put, ls0_, ls1_, ls2_])
 go_cut [21] (fun v21 wc => ∃ (kq : Nat) (x21_3 : Bool), v21 = .bool x21_3 ∧ Aside0 (spec_Settle.j0 kq x21_3 a0_0 a0_1 a0_2 a1_0 a1_1 a1_2 a2_0 a2_1 a2_2 = some (r1, r2, r3, r4)) ∧ Aside0 (kq ≤ k) ∧ Aside0 (wc.heap[gb255]? = some (.cells #[.int .i64 a0_0, .int .i64 a0_1, .int .i64 a0_2] 46 (0, 0))) ∧ Aside0 (wc.heap[gb256]? = some (.cells #[.int .i64 a1_0, .int .i64 a1_1, .int .i64 a1_2] 46 (0, 0))) ∧ Aside0 (wc.heap[gb257]? = some (.cells #[.int .i64 a2_0, .int .i64 a2_1, .int .i64 a2_2] 46 (0, 0))) ∧ Aside0 (wc.heap[gb258]? = some (.cells #[.int .i64 0, .int .i64 0, .int .i64 0] 46 (0, 0))) ∧ Aside0 (Below w.heap.size w wc))
 case first =>
  have H := HC4.out
  clear HC4
  replace H := Option.bind_eq_some_iff.mp H
  obtain ⟨t259, A90, H⟩ := H
  replace H : (if t259 = true then ((spec_CostOk.f a1_0 a1_1 a1_2).bind fun t260 => (if t260 = true then ((spec_CostOk.f a2_0 a2_1 a2_2).bind fun t261 => (spec_Settle.j0 k (!t261) a0_0 a0_1 a0_2 a1_0 a1_1 a1_2 a2_0 a2_1 a2_2)) else (spec_Settle.j0 k true a0_0 a0_1 a0_2 a1_0 a1_1 a1_2 a2_0 a2_1 a2_2))) else (spec_Settle.j0 k true a0_0 a0_1 a0_2 a1_0 a1_1 a1_2 a2_0 a2_1 a2_2)) = some (r1, r2, r3, r4) := H
  have A9 := Aside0.mk A90
  clear A90
  by_cases c10 : t259 = true
  ·subst c10
   have H1 : ((spec_CostOk.f a1_0 a1_1 a1_2).bind fun t260 => (if t260 = true then ((spec_CostOk.f a2_0 a2_1 a2_2).bind fun t261 => (spec_Settle.j0 k (!t261) a0_0 a0_1 a0_2 a1_0 a1_1 a1_2 a2_0 a2_1 a2_2)) else (spec_Settle.j0 k true a0_0 a0_1 a0_2 a1_0 a1_1 a1_2 a2_0 a2_1 a2_2))) = some (r1, r2, r3, r4) := by rw [if_pos rfl] at H; exact H
   clear H
   have H := H1
   clear H1
   replace H := Option.bind_eq_some_iff.mp H
   obtain ⟨t260, A110, H⟩ := H
   replace H : (if t260 = true then ((spec_CostOk.f a2_0 a2_1 a2_2).bind fun t261 => (spec_Settle.j0 k (!t261) a0_0 a0_1 a0_2 a1_0 a1_1 a1_2 a2_0 a2_1 a2_2)) else (spec_Settle.j0 k true a0_0 a0_1 a0_2 a1_0 a1_1 a1_2 a2_0 a2_1 a2_2)) = some (r1, r2, r3, r4) := H
   have A11 := Aside0.mk A110
   clear A110
   by_cases c12 : t260 = true
   ·subst c12
    have H1 : ((spec_CostOk.f a2_0 a2_1 a2_2).bind fun t261 => (spec_Settle.j0 k (!t261) a0_0 a0_1 a0_2 a1_0 a1_1 a1_2 a2_0 a2_1 a2_2)) = some (r1, r2, r3, r4) := by rw [if_pos rfl] at H; exact H
    clear H
    have H := H1
    clear H1
    replace H := Option.bind_eq_some_iff.mp H
    obtain ⟨t261, A130, H⟩ := H
    replace H : (spec_Settle.j0 k (!t261) a0_0 a0_1 a0_2 a1_0 a1_1 a1_2 a2_0 a2_1 a2_2) = some (r1, r2, r3, r4) := H
    have A13 := Aside0.mk A130
    clear A130
    have H' := Aside0.mk H
    clear H; have hnb14 := NB255_256.out; have hnc14 := NB256_255.out; have hnb15 := NB255_257.out; have hnc15 := NB257_255.out; have hnb16 := NB255_258.out; have hnc16 := NB258_255.out; obtain ⟨hcz17_0, hcz17_1, hcz17_2, hfz17_0, hfz17_1, hfz17_2⟩ := bz3_ BK255
    go_wp2_with (first | ((with_reducible refine gc_ 125 rfl ?_); refine gl_ 10 Try.func125 #[.agg #[.int .i64 a0_0, .int .i64 a0_1, .int .i64 a0_2]] ?_; (with_reducible refine (spec_CarryOk.calls a0_0 a0_1 a0_2 true _ A9.out).mono ?_); rintro e w18 ⟨rfl, hb⟩; refine ⟨_, rfl, ?_⟩; replace BK255 := bb_ BK255 hb; replace BK256 := bb_ BK256 hb; replace BK257 := bb_ BK257 hb; replace BK258 := bb_ BK258 hb; replace HB := Aside0.mk (below_step (bf_ HB) hb); (try clear hb); (try clear hb2); (try clear hk); (try clear hi); have hnb19 := NB256_257.out; have hnc19 := NB257_256.out; have hnb20 := NB256_258.out; have hnc20 := NB258_256.out; obtain ⟨hcz21_0, hcz21_1, hcz21_2, hfz21_0, hfz21_1, hfz21_2⟩ := bz3_ BK256) | (go_at_call 61; (with_reducible refine (spec_CostOk.calls a1_0 a1_1 a1_2 true _ A11.out).mono ?_); rintro e w22 ⟨rfl, hb⟩; replace BK255 := bb_ BK255 hb; replace BK256 := bb_ BK256 hb; replace BK257 := bb_ BK257 hb; replace BK258 := bb_ BK258 hb; replace HB := Aside0.mk (below_step (bf_ HB) hb); (try clear hb); (try clear hb2); (try clear hk); (try clear hi); have hnb23 := NB257_258.out; have hnc23 := NB258_257.out; obtain ⟨hcz24_0, hcz24_1, hcz24_2, hfz24_0, hfz24_1, hfz24_2⟩ := bz3_ BK257) | (go_at_call 61; (with_reducible refine (spec_CostOk.calls a2_0 a2_1 a2_2 t261 _ A13.out).mono ?_); rintro e w25 ⟨rfl, hb⟩; replace BK255 := bb_ BK255 hb; replace BK256 := bb_ BK256 hb; replace BK257 := bb_ BK257 hb; replace BK258 := bb_ BK258 hb; replace HB := Aside0.mk (below_step (bf_ HB) hb); (try clear hb); (try clear hb2); (try clear hk); (try clear hi)))
    go_meet
    case rel => exact ⟨_, (!t261), (by first | rfl | (simp; done) | (simp [*]; done)), H', ⟨by first | omega | exact Nat.le_refl _⟩, ⟨bk_ BK255⟩, ⟨bk_ BK256⟩, ⟨bk_ BK257⟩, ⟨bk_ BK258⟩, ⟨bf_ HB⟩⟩
   ·replace c12 := Bool.eq_false_iff.mpr c12
    subst c12
    have H1 : (spec_Settle.j0 k true a0_0 a0_1 a0_2 a1_0 a1_1 a1_2 a2_0 a2_1 a2_2) = some (r1, r2, r3, r4) := by rw [if_neg (show ¬ (false = true) by decide)] at H; exact H
    clear H
    have H := H1
    clear H1
    have H' := Aside0.mk H
    clear H; have hnb26 := NB255_256.out; have hnc26 := NB256_255.out; have hnb27 := NB255_257.out; have hnc27 := NB257_255.out; have hnb28 := NB255_258.out; have hnc28 := NB258_255.out; obtain ⟨hcz29_0, hcz29_1, hcz29_2, hfz29_0, hfz29_1, hfz29_2⟩ := bz3_ BK255
    go_wp2_with (first | ((with_reducible refine gc_ 125 rfl ?_); refine gl_ 10 Try.func125 #[.agg #[.int .i64 a0_0, .int .i64 a0_1, .int .i64 a0_2]] ?_; (with_reducible refine (spec_CarryOk.calls a0_0 a0_1 a0_2 true _ A9.out).mono ?_); rintro e w30 ⟨rfl, hb⟩; refine ⟨_, rfl, ?_⟩; replace BK255 := bb_ BK255 hb; replace BK256 := bb_ BK256 hb; replace BK257 := bb_ BK257 hb; replace BK258 := bb_ BK258 hb; replace HB := Aside0.mk (below_step (bf_ HB) hb); (try clear hb); (try clear hb2); (try clear hk); (try clear hi); have hnb31 := NB256_257.out; have hnc31 := NB257_256.out; have hnb32 := NB256_258.out; have hnc32 := NB258_256.out; obtain ⟨hcz33_0, hcz33_1, hcz33_2, hfz33_0, hfz33_1, hfz33_2⟩ := bz3_ BK256) | (go_at_call 61; (with_reducible refine (spec_CostOk.calls a1_0 a1_1 a1_2 false _ A11.out).mono ?_); rintro e w34 ⟨rfl, hb⟩; replace BK255 := bb_ BK255 hb; replace BK256 := bb_ BK256 hb; replace BK257 := bb_ BK257 hb; replace BK258 := bb_ BK258 hb; replace HB := Aside0.mk (below_step (bf_ HB) hb); (try clear hb); (try clear hb2); (try clear hk); (try clear hi)))
    go_meet
    case rel => exact ⟨_, (true), (by first | rfl | (simp; done) | (simp [*]; done)), H', ⟨by first | omega | exact Nat.le_refl _⟩, ⟨bk_ BK255⟩, ⟨bk_ BK256⟩, ⟨bk_ BK257⟩, ⟨bk_ BK258⟩, ⟨bf_ HB⟩⟩
  ·replace c10 := Bool.eq_false_iff.mpr c10
   subst c10
   have H1 : (spec_Settle.j0 k true a0_0 a0_1 a0_2 a1_0 a1_1 a1_2 a2_0 a2_1 a2_2) = some (r1, r2, r3, r4) := by rw [if_neg (show ¬ (false = true) by decide)] at H; exact H
   clear H
   have H := H1
   clear H1
   have H' := Aside0.mk H
   clear H; have hnb35 := NB255_256.out; have hnc35 := NB256_255.out; have hnb36 := NB255_257.out; have hnc36 := NB257_255.out; have hnb37 := NB255_258.out; have hnc37 := NB258_255.out; obtain ⟨hcz38_0, hcz38_1, hcz38_2, hfz38_0, hfz38_1, hfz38_2⟩ := bz3_ BK255
   go_wp2_with (first | ((with_reducible refine gc_ 125 rfl ?_); refine gl_ 10 Try.func125 #[.agg #[.int .i64 a0_0, .int .i64 a0_1, .int .i64 a0_2]] ?_; (with_reducible refine (spec_CarryOk.calls a0_0 a0_1 a0_2 false _ A9.out).mono ?_); rintro e w39 ⟨rfl, hb⟩; refine ⟨_, rfl, ?_⟩; replace BK255 := bb_ BK255 hb; replace BK256 := bb_ BK256 hb; replace BK257 := bb_ BK257 hb; replace BK258 := bb_ BK258 hb; replace HB := Aside0.mk (below_step (bf_ HB) hb); (try clear hb); (try clear hb2); (try clear hk); (try clear hi)))
   go_meet
   case rel => exact ⟨_, (true), (by first | rfl | (simp; done) | (simp [*]; done)), H', ⟨by first | omega | exact Nat.le_refl _⟩, ⟨bk_ BK255⟩, ⟨bk_ BK256⟩, ⟨bk_ BK257⟩, ⟨bk_ BK258⟩, ⟨bf_ HB⟩⟩
 case rest =>
  clear HC4; (try clear c1); (try clear c2); (try clear p2); (try clear c3); (try clear c6); (try clear c10); (try clear c12); (try clear c14); (try clear c15); (try clear c16); (try clear c19); (try clear c20); (try clear c23); (try clear c26); (try clear c27); (try clear c28); (try clear c31); (try clear c32); (try clear c35); (try clear c36); (try clear c37); (try clear hcz17_0 hcz17_1 hcz17_2 hfz17_0 hfz17_1 hfz17_2); (try clear hcz21_0 hcz21_1 hcz21_2 hfz21_0 hfz21_1 hfz21_2); (try clear hcz24_0 hcz24_1 hcz24_2 hfz24_0 hfz24_1 hfz24_2); (try clear hcz29_0 hcz29_1 hcz29_2 hfz29_0 hfz29_1 hfz29_2); (try clear hcz33_0 hcz33_1 hcz33_2 hfz33_0 hfz33_1 hfz33_2); (try clear hcz38_0 hcz38_1 hcz38_2 hfz38_0 hfz38_1 hfz38_2)
  obtain ⟨kq, x21_3, rfl, HA, HJ3, BK255, BK256, BK257, BK258, HB⟩ := hcut
  cases kq with
  | zero => exact absurd HA.out (by simp [spec_Settle.j0])
  | succ kj3 =>
   have H := HA.out
   clear HA
   simp only [spec_Settle.j0] at H
   by_cases c40 : x21_3 = true
   ·subst c40
    have H1 : (some (0, 0, 0, false)) = some (r1, r2, r3, r4) := by rw [if_pos rfl] at H; exact H
    clear H
    have H := H1
    clear H1
    simp only [Option.some.injEq, Prod.mk.injEq] at H
    obtain ⟨rfl, rfl, rfl, rfl⟩ := H
    have hnb41 := NB258_255.out; have hnc41 := NB255_258.out; have hnb42 := NB258_256.out; have hnc42 := NB256_258.out; have hnb43 := NB258_257.out; have hnc43 := NB257_258.out; obtain ⟨hcz44_0, hcz44_1, hcz44_2, hfz44_0, hfz44_1, hfz44_2⟩ := bz3_ BK258
    go_wp2
    refine bodyPost_ret (results_ct rfl _ _ gb258 46 #[.int .i64 0, .int .i64 0, .int .i64 0] (0, 0) _ rfl (by (with_reducible repeat (first | refine blk_drewN ?_ _ | refine blk_drew ?_ | refine blk_alloc ?_ _)); refine blk_put (cs := #[.int .i64 0, .int .i64 0, .int .i64 0]) ?_ 2 _ rfl; (with_reducible repeat (first | refine blk_drewN ?_ _ | refine blk_drew ?_ | refine blk_alloc ?_ _)); refine blk_put (cs := #[.int .i64 0, .int .i64 0, .int .i64 0]) ?_ 1 _ rfl; (with_reducible repeat (first | refine blk_drewN ?_ _ | refine blk_drew ?_ | refine blk_alloc ?_ _)); refine blk_put (cs := #[.int .i64 0, .int .i64 0, .int .i64 0]) ?_ 0 _ rfl; exact bk_ BK258) Try.underlying46 rfl (by kernel_rfl)) rfl ?_
    exact ⟨by first | rfl | (simp [errW_none, errW_some] <;> rfl) | (simp [*, errW_none, errW_some] <;> rfl), bf_ HB⟩
   ·replace c40 := Bool.eq_false_iff.mpr c40
    subst c40
    have H1 : ((spec_CarryOk.f (wrap64 ((wrap64 (a0_0 + a2_0)) - a1_0)) (wrap64 ((wrap64 (a0_1 + a2_1)) - a1_1)) (wrap64 ((wrap64 (a0_2 + a2_2)) - a1_2))).bind fun t263 => (if t263 = true then (some (wrap64 ((wrap64 (a0_0 + a2_0)) - a1_0), wrap64 ((wrap64 (a0_1 + a2_1)) - a1_1), wrap64 ((wrap64 (a0_2 + a2_2)) - a1_2), true)) else (some (0, 0, 0, false)))) = some (r1, r2, r3, r4) := by rw [if_neg (show ¬ (false = true) by decide)] at H; exact H
    clear H
    have H := H1
    clear H1
    replace H := Option.bind_eq_some_iff.mp H
    obtain ⟨t263, A450, H⟩ := H
    replace H : (if t263 = true then (some (wrap64 ((wrap64 (a0_0 + a2_0)) - a1_0), wrap64 ((wrap64 (a0_1 + a2_1)) - a1_1), wrap64 ((wrap64 (a0_2 + a2_2)) - a1_2), true)) else (some (0, 0, 0, false))) = some (r1, r2, r3, r4) := H
    have A45 := Aside0.mk A450
    clear A450
    by_cases c46 : t263 = true
    ·subst c46
     have H1 : (some (wrap64 ((wrap64 (a0_0 + a2_0)) - a1_0), wrap64 ((wrap64 (a0_1 + a2_1)) - a1_1), wrap64 ((wrap64 (a0_2 + a2_2)) - a1_2), true)) = some (r1, r2, r3, r4) := by rw [if_pos rfl] at H; exact H
     clear H
     have H := H1
     clear H1
     simp only [Option.some.injEq, Prod.mk.injEq] at H
     obtain ⟨rfl, rfl, rfl, rfl⟩ := H
     have hnb47 := NB255_256.out; have hnc47 := NB256_255.out; have hnb48 := NB255_257.out; have hnc48 := NB257_255.out; have hnb49 := NB255_258.out; have hnc49 := NB258_255.out; obtain ⟨hcz50_0, hcz50_1, hcz50_2, hfz50_0, hfz50_1, hfz50_2⟩ := bz3_ BK255; have hnb51 := NB257_256.out; have hnc51 := NB256_257.out; have hnb52 := NB257_258.out; have hnc52 := NB258_257.out; obtain ⟨hcz53_0, hcz53_1, hcz53_2, hfz53_0, hfz53_1, hfz53_2⟩ := bz3_ BK257; have hnb54 := NB256_258.out; have hnc54 := NB258_256.out; obtain ⟨hcz55_0, hcz55_1, hcz55_2, hfz55_0, hfz55_1, hfz55_2⟩ := bz3_ BK256
     go_wp2_with (first | ((with_reducible refine gd_ 8 rfl ?_); refine bv_ 8 #[.int .i64 0, .int .i64 0, .int .i64 0] 46 ?_; intro gb262 hg w56 hbox hb; have BK262 := Aside0.mk (hbox); have GW262 := gw_ HB hg; have GE262 := gw_ HB hg; replace HB := Aside0.mk (below_step (bf_ HB) hb); have NB255_262 := nl_ BK255 hg; have NB262_255 := ng_ BK255 hg; replace BK255 := bb_ BK255 hb; have NB256_262 := nl_ BK256 hg; have NB262_256 := ng_ BK256 hg; replace BK256 := bb_ BK256 hb; have NB257_262 := nl_ BK257 hg; have NB262_257 := ng_ BK257 hg; replace BK257 := bb_ BK257 hb; have NB258_262 := nl_ BK258 hg; have NB262_258 := ng_ BK258 hg; replace BK258 := bb_ BK258 hb; clear hb hbox hg; have hnb57 := NB262_255.out; have hnc57 := NB255_262.out; have hnb58 := NB262_256.out; have hnc58 := NB256_262.out; have hnb59 := NB262_257.out; have hnc59 := NB257_262.out; have hnb60 := NB262_258.out; have hnc60 := NB258_262.out; obtain ⟨hcz61_0, hcz61_1, hcz61_2, hfz61_0, hfz61_1, hfz61_2⟩ := bz3_ BK262) | ((with_reducible refine gc_ 125 rfl ?_); refine gl_ 49 Try.func125 #[.agg #[.int .i64 (wrap64 ((wrap64 (a0_0 + a2_0)) - a1_0)), .int .i64 (wrap64 ((wrap64 (a0_1 + a2_1)) - a1_1)), .int .i64 (wrap64 ((wrap64 (a0_2 + a2_2)) - a1_2))]] ?_; (with_reducible refine (spec_CarryOk.calls (wrap64 ((wrap64 (a0_0 + a2_0)) - a1_0)) (wrap64 ((wrap64 (a0_1 + a2_1)) - a1_1)) (wrap64 ((wrap64 (a0_2 + a2_2)) - a1_2)) true _ A45.out).mono ?_); rintro e w62 ⟨rfl, hb⟩; refine ⟨_, rfl, ?_⟩; replace BK255 := bm_ BK255 hb; replace BK256 := bm_ BK256 hb; replace BK257 := bm_ BK257 hb; replace BK258 := bm_ BK258 hb; replace BK262 := Aside0.mk (blk_below (g := gb262) (o := .cells #[.int .i64 (wrap64 ((wrap64 (a0_0 + a2_0)) - a1_0)), .int .i64 (wrap64 ((wrap64 (a0_1 + a2_1)) - a1_1)), .int .i64 (wrap64 ((wrap64 (a0_2 + a2_2)) - a1_2))] 46 (0, 0)) (by (with_reducible repeat (first | refine blk_drewN ?_ _ | refine blk_drew ?_ | refine blk_alloc ?_ _)); refine blk_put (cs := #[.int .i64 (wrap64 ((wrap64 (a0_0 + a2_0)) - a1_0)), .int .i64 (wrap64 ((wrap64 (a0_1 + a2_1)) - a1_1)), .int .i64 0]) ?_ 2 _ rfl; (with_reducible repeat (first | refine blk_drewN ?_ _ | refine blk_drew ?_ | refine blk_alloc ?_ _)); refine blk_put (cs := #[.int .i64 (wrap64 ((wrap64 (a0_0 + a2_0)) - a1_0)), .int .i64 0, .int .i64 0]) ?_ 1 _ rfl; (with_reducible repeat (first | refine blk_drewN ?_ _ | refine blk_drew ?_ | refine blk_alloc ?_ _)); refine blk_put (cs := #[.int .i64 0, .int .i64 0, .int .i64 0]) ?_ 0 _ rfl; exact bk_ BK262) hb); replace HB := Aside0.mk (below_step (bf_ HB) hb); (try clear hb); (try clear hb2); (try clear hk); (try clear hi); have hcz63_0 : w62.cell? ⟨gb262, 0, none⟩ = some (.int .i64 (wrap64 ((wrap64 (a0_0 + a2_0)) - a1_0))) := (blk_cell BK262.out 0).trans rfl; have hcz63_1 : w62.cell? ⟨gb262, 1, none⟩ = some (.int .i64 (wrap64 ((wrap64 (a0_1 + a2_1)) - a1_1))) := (blk_cell BK262.out 1).trans rfl; have hcz63_2 : w62.cell? ⟨gb262, 2, none⟩ = some (.int .i64 (wrap64 ((wrap64 (a0_2 + a2_2)) - a1_2))) := (blk_cell BK262.out 2).trans rfl; have hfz63_0 := blk_frozen BK262.out 0; have hfz63_1 := blk_frozen BK262.out 1; have hfz63_2 := blk_frozen BK262.out 2; obtain ⟨hcz64_0, hcz64_1, hcz64_2, hfz64_0, hfz64_1, hfz64_2⟩ := bz3_ BK258))
     refine bodyPost_ret (results_ct rfl _ _ gb258 46 #[.int .i64 (wrap64 ((wrap64 (a0_0 + a2_0)) - a1_0)), .int .i64 (wrap64 ((wrap64 (a0_1 + a2_1)) - a1_1)), .int .i64 (wrap64 ((wrap64 (a0_2 + a2_2)) - a1_2))] (0, 0) _ rfl (by (with_reducible repeat (first | refine blk_drewN ?_ _ | refine blk_drew ?_ | refine blk_alloc ?_ _)); refine blk_put (cs := #[.int .i64 (wrap64 ((wrap64 (a0_0 + a2_0)) - a1_0)), .int .i64 (wrap64 ((wrap64 (a0_1 + a2_1)) - a1_1)), .int .i64 0]) ?_ 2 _ rfl; (with_reducible repeat (first | refine blk_drewN ?_ _ | refine blk_drew ?_ | refine blk_alloc ?_ _)); refine blk_put (cs := #[.int .i64 (wrap64 ((wrap64 (a0_0 + a2_0)) - a1_0)), .int .i64 0, .int .i64 0]) ?_ 1 _ rfl; (with_reducible repeat (first | refine blk_drewN ?_ _ | refine blk_drew ?_ | refine blk_alloc ?_ _)); refine blk_put (cs := #[.int .i64 0, .int .i64 0, .int .i64 0]) ?_ 0 _ rfl; exact bk_ BK258) Try.underlying46 rfl (by kernel_rfl)) rfl ?_
     exact ⟨by first | rfl | (simp [errW_none, errW_some] <;> rfl) | (simp [*, errW_none, errW_some] <;> rfl), bf_ HB⟩
    ·replace c46 := Bool.eq_false_iff.mpr c46
     subst c46
     have H1 : (some (0, 0, 0, false)) = some (r1, r2, r3, r4) := by rw [if_neg (show ¬ (false = true) by decide)] at H; exact H
     clear H
     have H := H1
     clear H1
     simp only [Option.some.injEq, Prod.mk.injEq] at H
     obtain ⟨rfl, rfl, rfl, rfl⟩ := H
     have hnb65 := NB255_256.out; have hnc65 := NB256_255.out; have hnb66 := NB255_257.out; have hnc66 := NB257_255.out; have hnb67 := NB255_258.out; have hnc67 := NB258_255.out; obtain ⟨hcz68_0, hcz68_1, hcz68_2, hfz68_0, hfz68_1, hfz68_2⟩ := bz3_ BK255; have hnb69 := NB257_256.out; have hnc69 := NB256_257.out; have hnb70 := NB257_258.out; have hnc70 := NB258_257.out; obtain ⟨hcz71_0, hcz71_1, hcz71_2, hfz71_0, hfz71_1, hfz71_2⟩ := bz3_ BK257; have hnb72 := NB256_258.out; have hnc72 := NB258_256.out; obtain ⟨hcz73_0, hcz73_1, hcz73_2, hfz73_0, hfz73_1, hfz73_2⟩ := bz3_ BK256
     go_wp2_with (first | ((with_reducible refine gd_ 8 rfl ?_); refine bv_ 8 #[.int .i64 0, .int .i64 0, .int .i64 0] 46 ?_; intro gb262 hg w74 hbox hb; have BK262 := Aside0.mk (hbox); have GW262 := gw_ HB hg; have GE262 := gw_ HB hg; replace HB := Aside0.mk (below_step (bf_ HB) hb); have NB255_262 := nl_ BK255 hg; have NB262_255 := ng_ BK255 hg; replace BK255 := bb_ BK255 hb; have NB256_262 := nl_ BK256 hg; have NB262_256 := ng_ BK256 hg; replace BK256 := bb_ BK256 hb; have NB257_262 := nl_ BK257 hg; have NB262_257 := ng_ BK257 hg; replace BK257 := bb_ BK257 hb; have NB258_262 := nl_ BK258 hg; have NB262_258 := ng_ BK258 hg; replace BK258 := bb_ BK258 hb; clear hb hbox hg; have hnb75 := NB262_255.out; have hnc75 := NB255_262.out; have hnb76 := NB262_256.out; have hnc76 := NB256_262.out; have hnb77 := NB262_257.out; have hnc77 := NB257_262.out; have hnb78 := NB262_258.out; have hnc78 := NB258_262.out; obtain ⟨hcz79_0, hcz79_1, hcz79_2, hfz79_0, hfz79_1, hfz79_2⟩ := bz3_ BK262) | ((with_reducible refine gc_ 125 rfl ?_); refine gl_ 49 Try.func125 #[.agg #[.int .i64 (wrap64 ((wrap64 (a0_0 + a2_0)) - a1_0)), .int .i64 (wrap64 ((wrap64 (a0_1 + a2_1)) - a1_1)), .int .i64 (wrap64 ((wrap64 (a0_2 + a2_2)) - a1_2))]] ?_; (with_reducible refine (spec_CarryOk.calls (wrap64 ((wrap64 (a0_0 + a2_0)) - a1_0)) (wrap64 ((wrap64 (a0_1 + a2_1)) - a1_1)) (wrap64 ((wrap64 (a0_2 + a2_2)) - a1_2)) false _ A45.out).mono ?_); rintro e w80 ⟨rfl, hb⟩; refine ⟨_, rfl, ?_⟩; replace BK255 := bm_ BK255 hb; replace BK256 := bm_ BK256 hb; replace BK257 := bm_ BK257 hb; replace BK258 := bm_ BK258 hb; replace BK262 := Aside0.mk (blk_below (g := gb262) (o := .cells #[.int .i64 (wrap64 ((wrap64 (a0_0 + a2_0)) - a1_0)), .int .i64 (wrap64 ((wrap64 (a0_1 + a2_1)) - a1_1)), .int .i64 (wrap64 ((wrap64 (a0_2 + a2_2)) - a1_2))] 46 (0, 0)) (by (with_reducible repeat (first | refine blk_drewN ?_ _ | refine blk_drew ?_ | refine blk_alloc ?_ _)); refine blk_put (cs := #[.int .i64 (wrap64 ((wrap64 (a0_0 + a2_0)) - a1_0)), .int .i64 (wrap64 ((wrap64 (a0_1 + a2_1)) - a1_1)), .int .i64 0]) ?_ 2 _ rfl; (with_reducible repeat (first | refine blk_drewN ?_ _ | refine blk_drew ?_ | refine blk_alloc ?_ _)); refine blk_put (cs := #[.int .i64 (wrap64 ((wrap64 (a0_0 + a2_0)) - a1_0)), .int .i64 0, .int .i64 0]) ?_ 1 _ rfl; (with_reducible repeat (first | refine blk_drewN ?_ _ | refine blk_drew ?_ | refine blk_alloc ?_ _)); refine blk_put (cs := #[.int .i64 0, .int .i64 0, .int .i64 0]) ?_ 0 _ rfl; exact bk_ BK262) hb); replace HB := Aside0.mk (below_step (bf_ HB) hb); (try clear hb); (try clear hb2); (try clear hk); (try clear hi); obtain ⟨hcz81_0, hcz81_1, hcz81_2, hfz81_0, hfz81_1, hfz81_2⟩ := bz3_ BK258))
     refine bodyPost_ret (results_ct rfl _ _ gb258 46 #[.int .i64 0, .int .i64 0, .int .i64 0] (0, 0) _ rfl (by (with_reducible repeat (first | refine blk_drewN ?_ _ | refine blk_drew ?_ | refine blk_alloc ?_ _)); refine blk_put (cs := #[.int .i64 0, .int .i64 0, .int .i64 0]) ?_ 2 _ rfl; (with_reducible repeat (first | refine blk_drewN ?_ _ | refine blk_drew ?_ | refine blk_alloc ?_ _)); refine blk_put (cs := #[.int .i64 0, .int .i64 0, .int .i64 0]) ?_ 1 _ rfl; (with_reducible repeat (first | refine blk_drewN ?_ _ | refine blk_drew ?_ | refine blk_alloc ?_ _)); refine blk_put (cs := #[.int .i64 0, .int .i64 0, .int .i64 0]) ?_ 0 _ rfl; exact bk_ BK258) Try.underlying46 rfl (by kernel_rfl)) rfl ?_
     exact ⟨by first | rfl | (simp [errW_none, errW_some] <;> rfl) | (simp [*, errW_none, errW_some] <;> rfl), bf_ HB⟩

/-! ### spec_l13List: function 126 -/
def spec_l13List.f (a0_0 : Int) (a0_1 : Int) (a0_2 : Int) : Option (List Int) := some (([a0_0, a0_1, a0_2] : List Int))
set_option maxHeartbeats 8000000 in
set_option maxRecDepth 100000 in
theorem spec_l13List.calls (a0_0 : Int) (a0_1 : Int) (a0_2 : Int) (r : List Int) (w : World) (h : spec_l13List.f a0_0 a0_1 a0_2 = some r) :
  Calls Try.prog 126 #[.agg #[.int .i64 a0_0, .int .i64 a0_1, .int .i64 a0_2]] w fun e w' => ∃ v0_ : Value, e = .returned (v0_) ∧ Kd.R (Kd.int .i64) 3 w' w.heap.size (fun _ => True) v0_ r ∧ Below w.heap.size w w' := by
 have hu46 := Try.underlying46; have HB := Aside0.mk (Below.refl w.heap.size w)
 have H : (some (([a0_0, a0_1, a0_2] : List Int))) = some r := h
 clear h
 obtain ⟨y265, hy265⟩ : ∃ y_ : List Int, y_ = (([a0_0, a0_1, a0_2] : List Int)) := ⟨_, rfl⟩
 replace H : (some y265) = some r := by first | (rw [hy265]; with_reducible exact H) | (have H2_ := (Option.bind_some _ _).symm.trans H; rw [hy265]; with_reducible exact H2_) | (have H2_ := (Option.bind_some _ _).symm.trans H; with_reducible exact H2_) | with_reducible exact H | (rw [hy265]; exact H) | exact H
 have Ny265 := Aside0.mk hy265
 clear hy265
 obtain rfl := Option.some.inj H
 go_enter Try.func126, Try.ntmps126
 go_wp2_with (first | ((with_reducible refine gd_ 1 rfl ?_); refine bv_ 1 #[.int .i64 a0_0, .int .i64 a0_1, .int .i64 a0_2] 46 ?_; intro gb264 hg w2 hbox hb; have BK264 := Aside0.mk (hbox); have GW264 := gw_ HB hg; have GE264 := gw_ HB hg; replace HB := Aside0.mk (below_step (be_ HB) hb); clear hb hbox hg; obtain ⟨hcz3_0, hcz3_1, hcz3_2, hfz3_0, hfz3_1, hfz3_2⟩ := bz3_ BK264) | ((with_reducible refine gd_ 9 rfl ?_); refine Kd.R_lit (Kd.int .i64) _ 3 ?hg (N := 9) ?hd (xs := ([a0_0, a0_1, a0_2] : List Int)) (inner := [.int .i64 a0_0, .int .i64 a0_1, .int .i64 a0_2]) (ok := fun _ => True) (okp := fun _ => True) ?hr ?hp (fun _ hk => by first | exact hk | grind) trivial (Below.refl _ _) (Nat.le_refl _) (by simp) ?_; (case hd => rfl); (case hg => rfl); (case hr => first | (go_simp; done) | (go_simp; rfl)); (case hp => exact (Reps.one (show Kd.M (Kd.int .i64) _ _ _ a0_0 [.int .i64 a0_0] from rfl) (Reps.one (show Kd.M (Kd.int .i64) _ _ _ a0_1 [.int .i64 a0_1] from rfl) (Reps.one (show Kd.M (Kd.int .i64) _ _ _ a0_2 [.int .i64 a0_2] from rfl) (Reps.none _ _))))); intro v266 w4 ho5 hb hg_ hnew_; clear hg_ hnew_; (first | rw [← Ny265.out] at ho5 | (simp only [Int.reduceToNat] at ho5; rw [← Ny265.out] at ho5)); have HO267 := Aside0.mk (Kd.R_lower ho5 (below_size (bf_ HB))); replace BK264 := bb_ BK264 hb; replace HB := Aside0.mk (below_step (bf_ HB) hb); clear hb ho5))
 go_ret
 exact ⟨_, by first | rfl | (simp [errW_none, errW_some] <;> rfl) | (simp [*, errW_none, errW_some] <;> rfl), by (with_reducible repeat (first | apply Kd.R_alloc | apply Kd.R_drewN | apply Kd.R_drew)); exact HO267.out, bf_ HB⟩

/-! ### spec_Clip: function 127 -/
def spec_Clip.f (a0 : Int) (a1 : Int) (a2 : Int) : Option (Int) := if a0 < a1 then (some a1) else (if a0 > a2 then (some a2) else (some a0))
set_option maxHeartbeats 8000000 in
set_option maxRecDepth 100000 in
theorem spec_Clip.calls (a0 : Int) (a1 : Int) (a2 : Int) (r : Int) (w : World) (h : spec_Clip.f a0 a1 a2 = some r) :
  Calls Try.prog 127 #[.int .i64 a0, .int .i64 a1, .int .i64 a2] w fun e w' => e = .returned (.int .i64 r) ∧ Drawn0 w w' := by
 have H : (if a0 < a1 then (some a1) else (if a0 > a2 then (some a2) else (some a0))) = some r := h
 clear h
 by_cases c4 : a0 < a1
 ·rw [if_pos c4] at H
  have c4b0 : decide (a0 < a1) = true := decide_eq_true c4
  clear c4
  obtain rfl := Option.some.inj H
  go_enter Try.func127, Try.ntmps127
  go_wp2
  go_ret
  exact ⟨by first | rfl | (simp; done) | (simp [*]; done), by repeat (first | exact Drawn0.refl _ | apply Drawn0.step)⟩
 ·rw [if_neg c4] at H
  have c4b0 : decide (a0 < a1) = false := decide_eq_false c4
  clear c4
  by_cases c5 : a0 > a2
  ·rw [if_pos c5] at H
   have c5b0 : decide (a2 < a0) = true := decide_eq_true c5
   clear c5
   obtain rfl := Option.some.inj H
   go_enter Try.func127, Try.ntmps127
   go_wp2
   go_ret
   exact ⟨by first | rfl | (simp; done) | (simp [*]; done), by repeat (first | exact Drawn0.refl _ | apply Drawn0.step)⟩
  ·rw [if_neg c5] at H
   have c5b0 : decide (a2 < a0) = false := decide_eq_false c5
   clear c5
   obtain rfl := Option.some.inj H
   go_enter Try.func127, Try.ntmps127
   go_wp2
   go_ret
   exact ⟨by first | rfl | (simp; done) | (simp [*]; done), by repeat (first | exact Drawn0.refl _ | apply Drawn0.step)⟩

/-! ### spec_l13Of: function 128 -/
def spec_l13Of.f (l0 : List Int) : Option (Int × Int × Int) := if 0 < (l0.length : Int) then (if 1 < (l0.length : Int) then (if 2 < (l0.length : Int) then (some (rd l0 0, rd l0 1, rd l0 2)) else (none)) else (none)) else (none)
def spec_l13Of.T1 : Bool × List (List Nat × List Nat) := (true, [([], []), ([0], [0]), ([1], [1]), ([], []), ([3], [3]), ([4], [4]), ([], []), ([6], [6]), ([7], [7]), ([2, 5, 8], [2, 5, 8]), ([9, 0, 1, 2, 3, 4, 5, 6, 7, 8, 9], [9])])
def spec_l13Of.B1 : List Nat := [0, 1, 3, 0, 8, 24, 0, 64, 192, 511, 1023]
theorem spec_l13Of.tab1 : rtab .any (opsOf Try.f128 1) = spec_l13Of.T1 := by kernel_rfl
theorem spec_l13Of.bits1 : waitsOk spec_l13Of.T1.2 spec_l13Of.B1 = true := by kernel_rfl
set_option maxHeartbeats 8000000 in
set_option maxRecDepth 100000 in
theorem spec_l13Of.calls (A0 : Option Addr) (c0 : Nat) (l0 : List Int) (r1 : Int) (r2 : Int) (r3 : Int) (w : World) (hr0 : Kd.C (Kd.int .i64) w A0 l0.length l0) (hc0 : l0.length ≤ c0) (h : spec_l13Of.f l0 = some (r1, r2, r3)) :
  Calls Try.prog 128 #[.slice A0 l0.length c0] w fun e w' => e = .returned (.agg #[.int .i64 r1, .int .i64 r2, .int .i64 r3]) ∧ Below w.heap.size w w' := by
 have hu46 := Try.underlying46
 have HR0 := Aside0.mk hr0
 have HC0 := Aside0.mk hc0
 clear hr0 hc0; have HB := Aside0.mk (Below.refl w.heap.size w)
 have H : (if 0 < (l0.length : Int) then (if 1 < (l0.length : Int) then (if 2 < (l0.length : Int) then (some (rd l0 0, rd l0 1, rd l0 2)) else (none)) else (none)) else (none)) = some (r1, r2, r3) := h
 clear h
 by_cases c2 : 0 < (l0.length : Int)
 ·rw [if_pos c2] at H
  have c2b0 : decide (0 < (l0.length : Int)) = true := decide_eq_true c2
  have c2b1 : decide (0 < l0.length) = true := decide_eq_true (by omega)
  clear c2
  by_cases c3 : 1 < (l0.length : Int)
  ·rw [if_pos c3] at H
   have c3b0 : decide (1 < (l0.length : Int)) = true := decide_eq_true c3
   have c3b1 : decide (1 < l0.length) = true := decide_eq_true (by omega)
   clear c3
   by_cases c4 : 2 < (l0.length : Int)
   ·rw [if_pos c4] at H
    have c4b0 : decide (2 < (l0.length : Int)) = true := decide_eq_true c4
    have c4b1 : decide (2 < l0.length) = true := decide_eq_true (by omega)
    clear c4
    simp only [Option.some.injEq, Prod.mk.injEq] at H
    obtain ⟨rfl, rfl, rfl⟩ := H
    go_enter Try.func128, Try.ntmps128
    try go_wp2_with (first | ((with_reducible refine gd_ 2 rfl ?_); refine bv_ 2 #[.int .i64 0, .int .i64 0, .int .i64 0] 46 ?_; intro gb268 hg w5 hbox hb; have BK268 := Aside0.mk (hbox); have GW268 := gw_ HB hg; have GE268 := gw_ HB hg; replace HB := Aside0.mk (below_step (be_ HB) hb); clear hb hbox hg))
    replace BK268 := Aside0.mk (blk_drew BK268.out); replace HB := Aside0.mk (below_drew1 HB.out)
    have p269 : 0 ≤ (0 : Int) := (by omega)
    have q269 : 0 < (l0.length : Int) := od_
    obtain ⟨ad269, e269, hx269_0⟩ := Kd.at_int HR0.out 0 p269 q269
    have hw269_0 := hx269_0
    (try rw [show ((0 : Int)).toNat = 0 from rfl] at hw269_0)
    (try rw [show 0 * 1 = 0 from rfl] at hw269_0)
    (try rw [Addr.add_zero'] at hw269_0)
    cases e269
    have qi269 : (0 < l0.length) = True := eq_true (by omega)
    (try rw [show ((0 : Int)).toNat = 0 from rfl] at hx269_0)
    (try rw [Addr.add_zero'] at hx269_0)
    replace hx269_0 := hb_ HB hx269_0
    replace p269 := eq_true p269
    replace q269 := eq_true q269
    have p270 : 0 ≤ (1 : Int) := (by omega)
    have q270 : 1 < (l0.length : Int) := od_
    obtain ⟨ad270, e270, hx270_0⟩ := Kd.at_int HR0.out 1 p270 q270
    have hw270_0 := hx270_0
    (try rw [show ((1 : Int)).toNat = 1 from rfl] at hw270_0)
    (try rw [show 1 * 1 = 1 from rfl] at hw270_0)
    (try simp only [Nat.reduceMul, Nat.reduceEqDiff, Go.Addr.add, ↓reduceIte] at hw270_0)
    obtain rfl : ad269 = ad270 := (by injection e270)
    (try simp only [show (1 : Int).toNat = 1 from rfl, Nat.reduceMul, Nat.reduceEqDiff, Go.Addr.add, ↓reduceIte] at hx270_0)
    have qi270 : (1 < l0.length) = True := eq_true (by omega)
    (try rw [show ((1 : Int)).toNat = 1 from rfl] at hx270_0)
    replace hx270_0 := hb_ HB hx270_0
    replace p270 := eq_true p270
    replace q270 := eq_true q270
    have p271 : 0 ≤ (2 : Int) := (by omega)
    have q271 : 2 < (l0.length : Int) := od_
    obtain ⟨ad271, e271, hx271_0⟩ := Kd.at_int HR0.out 2 p271 q271
    have hw271_0 := hx271_0
    (try rw [show ((2 : Int)).toNat = 2 from rfl] at hw271_0)
    (try rw [show 2 * 1 = 2 from rfl] at hw271_0)
    (try simp only [Nat.reduceMul, Nat.reduceEqDiff, Go.Addr.add, ↓reduceIte] at hw271_0)
    obtain rfl : ad269 = ad271 := (by injection e271)
    (try simp only [show (2 : Int).toNat = 2 from rfl, Nat.reduceMul, Nat.reduceEqDiff, Go.Addr.add, ↓reduceIte] at hx271_0)
    have qi271 : (2 < l0.length) = True := eq_true (by omega)
    (try rw [show ((2 : Int)).toNat = 2 from rfl] at hx271_0)
    replace hx271_0 := hb_ HB hx271_0
    replace p271 := eq_true p271
    replace q271 := eq_true q271
    refine start_ (n := 11) (S := fun w' => w'.cell? ad269 = some (.int .i64 (rd l0 0)) ∧ w'.cell? ⟨ad269.block, ad269.off + 1, none⟩ = some (.int .i64 (rd l0 1)) ∧ w'.cell? ⟨ad269.block, ad269.off + 2, none⟩ = some (.int .i64 (rd l0 2))) (ds := []) (bs 11 0) (by kernel_rfl) rfl rfl ⟨(hd_ HB hw269_0), (hd_ HB hw270_0), (hd_ HB hw271_0)⟩ (fun hHeld => ?_); refine with_tabW spec_l13Of.tab1 spec_l13Of.bits1 (fun HT_ HW_ => ?_)
    generalize w5.drew = w6 at BK268 HB hx269_0 hx270_0 hx271_0 hHeld ⊢
    refine ps_ 0 3 (bs 11 1) HT_ ?_
    refine ps_ 1 4 (bs 11 2) HT_ ?_
    refine ps_ 3 6 (bm 11 11) HT_ ?_
    refine ps_ 4 7 (bm 11 27) HT_ ?_
    refine ps_ 6 9 (bm 11 91) HT_ ?_
    refine ps_ 7 10 (bm 11 219) HT_ ?_
    refine tk_ 2 5 (bm 11 223) HT_ HW_ hHeld ?_
    refine tk_ 5 8 (bs 11 8) HT_ HW_ hHeld ?_
    refine tk_ 8 11 (bs 11 9) HT_ HW_ hHeld ?_
    refine ps_ 9 12 (bs 11 10) HT_ ?_
    refine on_ 10 none (bs 11 11) HT_ (fun K hK => ?_)
    have hs7 := bc_ BK268 0 (.int .i64 0) rfl; have hfs7 := blk_frozen BK268.out 0; have hs8 := bc_ BK268 1 (.int .i64 0) rfl; have hfs8 := blk_frozen BK268.out 1; have hs9 := bc_ BK268 2 (.int .i64 0) rfl; have hfs9 := blk_frozen BK268.out 2
    refine skip_ (w1 := ?_) (by rfl) rfl ?_ ?_
    rotate_left
    ·go_simp
     rfl
    refine hK.out _ _ ⟨(cf3_ (by first | exact Nat.ne_of_lt (Nat.lt_of_lt_of_le (by have := World.block_lt_of_cell? _ _ hw269_0; first | rwa [add_block] at this | exact this) GW268.out) | (rw [add_block]; exact Nat.ne_of_lt (Nat.lt_of_lt_of_le (by have := World.block_lt_of_cell? _ _ hw269_0; first | rwa [add_block] at this | exact this) GW268.out)) | (show (Addr.add _ _).block ≠ _; rw [add_block]; exact Nat.ne_of_lt (Nat.lt_of_lt_of_le (by have := World.block_lt_of_cell? _ _ hw269_0; first | rwa [add_block] at this | exact this) GW268.out)) | (dsimp only; exact Nat.ne_of_lt (Nat.lt_of_lt_of_le (by have := World.block_lt_of_cell? _ _ hw269_0; first | rwa [add_block] at this | exact this) GW268.out))) hHeld.1), (cf3_ (by first | exact Nat.ne_of_lt (Nat.lt_of_lt_of_le (by have := World.block_lt_of_cell? _ _ hw270_0; first | rwa [add_block] at this | exact this) GW268.out) | (rw [add_block]; exact Nat.ne_of_lt (Nat.lt_of_lt_of_le (by have := World.block_lt_of_cell? _ _ hw270_0; first | rwa [add_block] at this | exact this) GW268.out)) | (show (Addr.add _ _).block ≠ _; rw [add_block]; exact Nat.ne_of_lt (Nat.lt_of_lt_of_le (by have := World.block_lt_of_cell? _ _ hw270_0; first | rwa [add_block] at this | exact this) GW268.out)) | (dsimp only; exact Nat.ne_of_lt (Nat.lt_of_lt_of_le (by have := World.block_lt_of_cell? _ _ hw270_0; first | rwa [add_block] at this | exact this) GW268.out))) hHeld.2.1), (cf3_ (by first | exact Nat.ne_of_lt (Nat.lt_of_lt_of_le (by have := World.block_lt_of_cell? _ _ hw271_0; first | rwa [add_block] at this | exact this) GW268.out) | (rw [add_block]; exact Nat.ne_of_lt (Nat.lt_of_lt_of_le (by have := World.block_lt_of_cell? _ _ hw271_0; first | rwa [add_block] at this | exact this) GW268.out)) | (show (Addr.add _ _).block ≠ _; rw [add_block]; exact Nat.ne_of_lt (Nat.lt_of_lt_of_le (by have := World.block_lt_of_cell? _ _ hw271_0; first | rwa [add_block] at this | exact this) GW268.out)) | (dsimp only; exact Nat.ne_of_lt (Nat.lt_of_lt_of_le (by have := World.block_lt_of_cell? _ _ hw271_0; first | rwa [add_block] at this | exact this) GW268.out))) hHeld.2.2)⟩ (fun hHeld => ?_)
    clear hK K
    refine done_ (done_of HT_.out (by kernel_rfl)) ?_
    try go_wp2
    refine bodyPost_ret (results_cell_row rfl _ _ gb268 46 #[.int .i64 (rd l0 0), .int .i64 (rd l0 1), .int .i64 (rd l0 2)] (0, 0) _ rfl (by (with_reducible repeat (first | refine blk_drewN ?_ _ | refine blk_drew ?_ | refine blk_alloc ?_ _)); refine blk_put (cs := #[.int .i64 (rd l0 0), .int .i64 (rd l0 1), .int .i64 0]) ?_ 2 _ rfl; (with_reducible repeat (first | refine blk_drewN ?_ _ | refine blk_drew ?_ | refine blk_alloc ?_ _)); refine blk_put (cs := #[.int .i64 (rd l0 0), .int .i64 0, .int .i64 0]) ?_ 1 _ rfl; (with_reducible repeat (first | refine blk_drewN ?_ _ | refine blk_drew ?_ | refine blk_alloc ?_ _)); refine blk_put (cs := #[.int .i64 0, .int .i64 0, .int .i64 0]) ?_ 0 _ rfl; exact bk_ BK268) Try.underlying46 rfl (by kernel_rfl)) rfl ?_
    exact ⟨by first | rfl | (simp [errW_none, errW_some] <;> rfl) | (simp [*, errW_none, errW_some] <;> rfl), bf_ HB⟩
   ·rw [if_neg c4] at H
    exact absurd H (by simp)
  ·rw [if_neg c3] at H
   exact absurd H (by simp)
 ·rw [if_neg c2] at H
  exact absurd H (by simp)

end Go.Proofs.Ytlafobfjbkhioaa.PFnCarryBound
