-- printed by a program of this session (wip/printx) out of the translation; Lean checks it
import Derived.Test.YtnklakficjpmoaaVFnExactHeapDrop
import Derived.Test.YtnklakficjpmoaaPFnExactHeapDropx0
import Derived.Test.YtnklakficjpmoaaPFnExactHeapDropx1
import Derived.Test.YtnklakficjpmoaaPFnExactHeapDropx3
import Derived.Test.YtnklakficjpmoaaPFnExactHeapDropx7
namespace Go.Proofs.Ytnklakficjpmoaa.PFnExactHeapDrop
open Go.RowKit Go.Proofs.YtnklakficjpmoaaW.PrintWords Go.Proofs.YtnklakficjpmoaaW.PrintLast Go.Proofs.YtnklakficjpmoaaW.PrintMore
attribute [local go_sem] max2_int min2_int max_two min_two max_three min_three max_four min_four   -- for this text's walks alone
set_option linter.unusedVariables false
set_option linter.unusedSimpArgs false

/-! ### laws_FnExactHeapDrop: function 5 -/
mutual
def laws_FnExactHeapDrop.j0 : Nat → Int → Int → Int → Bool → List (S126) → List (S68) → List (S68) → List (S68) → Option (Bool)
  | 0, _, _, _, _, _, _, _, _ => none
  | k + 1, x1, x7, x10, x44, x276000, x285000, x289000, x294000 => if x44 = true then (some false) else ((laws_toHeap.f k x276000).bind fun t295 => ((laws_eqHeap.f k x289000 t295).bind fun t298 => (if t298 = true then ((laws_markHeap.f k x289000 1).bind fun bt299 => (if bt299.1 < 0 then (laws_FnExactHeapDrop.j1 k x1 x7 true x276000 x285000 x294000) else ((laws_eqHeap.f k x294000 x285000).bind fun t301 => (if t301 = true then (laws_FnExactHeapDrop.j1 k x1 x7 (x10 != x7) x276000 x285000 x294000) else (laws_FnExactHeapDrop.j1 k x1 x7 true x276000 x285000 x294000))))) else (some false))))
def laws_FnExactHeapDrop.j1 : Nat → Int → Int → Bool → List (S126) → List (S68) → List (S68) → Option (Bool)
  | 0, _, _, _, _, _, _ => none
  | k + 1, x1, x7, x65, x276000, x285000, x294000 => if x65 = true then (some false) else ((laws_markHeap.f k x294000 1).bind fun bt302 => ((laws_heldHeap.f k bt302.2 1).bind fun t304 => (if t304 < 0 then (some false) else (if t304 = bt302.1 then ((laws_toHeap.f k x276000).bind fun t305 => ((impl_HeapDrop.f k t305 x1).bind fun bt308 => ((laws_eqHeap.f k bt308.1 x285000).bind fun t313 => (if t313 = true then (laws_FnExactHeapDrop.j2 k bt302.1 (bt308.2 != x7) bt302.2) else (laws_FnExactHeapDrop.j2 k bt302.1 true bt302.2))))) else (some false)))))
def laws_FnExactHeapDrop.j2 : Nat → Int → Bool → List (S68) → Option (Bool)
  | 0, _, _, _ => none
  | k + 1, x12, x92, x294000 => if x92 = true then (some false) else ((laws_heldHeap.f k x294000 1).bind fun t314 => (if t314 < 0 then (some false) else (if t314 = x12 then (some true) else (some false))))
end
def laws_FnExactHeapDrop.f (k : Nat) (l0_0 : List (S126)) (a1 : Int) : Option (Bool) := (laws_szHeap.f l0_0 1048576).bind fun t276 => (if t276 < 0 then (some true) else ((laws_toHeap.f k l0_0).bind fun t277 => ((spec_HeapDrop.f k t277 a1).bind fun bt280 => ((laws_toHeap.f k l0_0).bind fun t285 => ((impl_HeapDrop.f k t285 a1).bind fun bt289 => ((laws_eqHeap.f k bt289.1 bt280.1).bind fun t294 => (if t294 = true then (laws_FnExactHeapDrop.j0 k a1 bt280.2 bt289.2 (bt289.2 != bt280.2) l0_0 bt280.1 t285 bt289.1) else (laws_FnExactHeapDrop.j0 k a1 bt280.2 bt289.2 true l0_0 bt280.1 t285 bt289.1))))))))
theorem laws_FnExactHeapDrop.mono_l : ∀ k, (∀ y0 y1 y2 y3 y4 y5 y6 y7, LeO (laws_FnExactHeapDrop.j0 k y0 y1 y2 y3 y4 y5 y6 y7) (laws_FnExactHeapDrop.j0 (k + 1) y0 y1 y2 y3 y4 y5 y6 y7)) ∧ (∀ y0 y1 y2 y3 y4 y5, LeO (laws_FnExactHeapDrop.j1 k y0 y1 y2 y3 y4 y5) (laws_FnExactHeapDrop.j1 (k + 1) y0 y1 y2 y3 y4 y5)) ∧ (∀ y0 y1 y2, LeO (laws_FnExactHeapDrop.j2 k y0 y1 y2) (laws_FnExactHeapDrop.j2 (k + 1) y0 y1 y2))
 | 0 => ⟨fun _ _ _ _ _ _ _ _ r h => by simp [laws_FnExactHeapDrop.j0] at h, fun _ _ _ _ _ _ r h => by simp [laws_FnExactHeapDrop.j1] at h, fun _ _ _ r h => by simp [laws_FnExactHeapDrop.j2] at h⟩
 | k + 1 => by
  obtain ⟨ih0, ih1, ih2⟩ := laws_FnExactHeapDrop.mono_l k
  refine ⟨?_, ?_, ?_⟩ <;> intros <;> (first | unfold laws_FnExactHeapDrop.j0 | unfold laws_FnExactHeapDrop.j1 | unfold laws_FnExactHeapDrop.j2) <;> repeat' (first | (with_reducible exact ih0 ..) | (with_reducible exact ih1 ..) | (with_reducible exact ih2 ..) | (with_reducible exact impl_HeapDrop.mono _ _ _) | (with_reducible exact laws_eqHeap.mono _ _ _) | (with_reducible exact laws_heldHeap.mono _ _ _) | (with_reducible exact laws_markHeap.mono _ _ _) | (with_reducible exact laws_toHeap.mono _ _) | (with_reducible exact spec_HeapDrop.mono _ _ _) | (with_reducible exact LeO.refl _) | (with_reducible exact LeO.none _) | (with_reducible refine LeO.ite ?_ ?_) | (with_reducible refine LeO.bind ?_ (fun _ => ?_)) | exact ih0 .. | exact ih1 .. | exact ih2 .. | exact impl_HeapDrop.mono _ _ _ | exact laws_eqHeap.mono _ _ _ | exact laws_heldHeap.mono _ _ _ | exact laws_markHeap.mono _ _ _ | exact laws_toHeap.mono _ _ | exact spec_HeapDrop.mono _ _ _ | exact LeO.none _ | refine LeO.ite ?_ ?_ | refine LeO.bind ?_ (fun _ => ?_))
theorem laws_FnExactHeapDrop.mono : ∀ a0 a1 k, LeO (laws_FnExactHeapDrop.f k a0 a1) (laws_FnExactHeapDrop.f (k + 1) a0 a1) := by
 intro a0 a1 k
 obtain ⟨ih0, ih1, ih2⟩ := laws_FnExactHeapDrop.mono_l k
 unfold laws_FnExactHeapDrop.f
 repeat' (first | (with_reducible exact ih0 ..) | (with_reducible exact ih1 ..) | (with_reducible exact ih2 ..) | (with_reducible exact impl_HeapDrop.mono _ _ _) | (with_reducible exact laws_eqHeap.mono _ _ _) | (with_reducible exact laws_heldHeap.mono _ _ _) | (with_reducible exact laws_markHeap.mono _ _ _) | (with_reducible exact laws_toHeap.mono _ _) | (with_reducible exact spec_HeapDrop.mono _ _ _) | (with_reducible exact LeO.refl _) | (with_reducible exact LeO.none _) | (with_reducible refine LeO.ite ?_ ?_) | (with_reducible refine LeO.bind ?_ (fun _ => ?_)) | exact ih0 .. | exact ih1 .. | exact ih2 .. | exact impl_HeapDrop.mono _ _ _ | exact laws_eqHeap.mono _ _ _ | exact laws_heldHeap.mono _ _ _ | exact laws_markHeap.mono _ _ _ | exact laws_toHeap.mono _ _ | exact spec_HeapDrop.mono _ _ _ | exact LeO.none _ | refine LeO.ite ?_ ?_ | refine LeO.bind ?_ (fun _ => ?_))
set_option maxHeartbeats 8000000 in
set_option maxRecDepth 100000 in
theorem laws_FnExactHeapDrop.calls (k : Nat) (A0_0 : Option Addr) (c0_0 : Nat) (l0_0 : List (S126)) (a1 : Int) (r : Bool) (w : World) (hr0_0 : Kd.C k126 w A0_0 l0_0.length l0_0) (hc0_0 : l0_0.length ≤ c0_0) (h : laws_FnExactHeapDrop.f k l0_0 a1 = some r) :
  Calls Try.prog 5 #[.agg #[.slice A0_0 l0_0.length c0_0], .int .i64 a1] w fun e w' => e = .returned (.bool r) ∧ Below w.heap.size w w' := by
 have hu24 := Try.underlying24; have hu29 := Try.underlying29
 have HR0_0 := Aside0.mk hr0_0
 have HC0_0 := Aside0.mk hc0_0
 clear hr0_0 hc0_0; have HB := Aside0.mk (Below.refl w.heap.size w)
 have H := h
 clear h
 unfold laws_FnExactHeapDrop.f at H
 replace H := Option.bind_eq_some_iff.mp H
 obtain ⟨t276, A30, H⟩ := H
 have A3 := Aside0.mk A30
 clear A30
 by_cases c4 : t276 < 0
 ·rw [if_pos c4] at H
  have c4b0 : decide (t276 < 0) = true := decide_eq_true c4
  clear c4
  obtain rfl := Option.some.inj H
  go_enter Try.func5, Try.ntmps5
  go_wp2_with (first | ((with_reducible refine gd_ 2 rfl ?_); refine bv_ 2 #[.slice A0_0 l0_0.length c0_0] 24 ?_; intro gb275 hg w5 hbox hb; have BK275 := Aside0.mk (hbox); have GW275 := gw_ HB hg; have GE275 := gw_ HB hg; replace HB := Aside0.mk (below_step (be_ HB) hb); clear hb hbox hg; obtain ⟨hcz6_0, hfz6_0⟩ := bz1_ BK275) | ((with_reducible refine gc_ 15 rfl ?_); refine gl_ 18 Try.func15 #[.agg #[.slice A0_0 l0_0.length c0_0], .int .i64 1048576] ?_; (with_reducible refine (laws_szHeap.calls _ _ l0_0 1048576 t276 _ ?side1 ?side2 A3.out).mono ?_); (case side1 => repeat (first | exact (Kd.C_below HR0_0.out HB.out) | (with_reducible refine Kd.C_alloc ?_ _) | (with_reducible refine Kd.C_drewN ?_ _) | (with_reducible refine Kd.C_drew ?_))); (case side2 => exact HC0_0.out); rintro e w7 ⟨rfl, hb⟩; refine ⟨_, rfl, ?_⟩; replace BK275 := bb_ BK275 hb; replace HB := Aside0.mk (below_step (bf_ HB) hb); (try clear hb); (try clear hb2); (try clear hk); (try clear hi)))
  go_ret
  exact ⟨by first | rfl | (simp [errW_none, errW_some] <;> rfl) | (simp [*, errW_none, errW_some] <;> rfl), bf_ HB⟩
 ·rw [if_neg c4] at H
  have c4b0 : decide (t276 < 0) = false := decide_eq_false c4
  clear c4
  replace H := Option.bind_eq_some_iff.mp H
  obtain ⟨t277, A80, H⟩ := H
  have A8 := Aside0.mk A80
  clear A80
  replace H := Option.bind_eq_some_iff.mp H
  obtain ⟨⟨t280, t283⟩, A90, H⟩ := H
  have A9 := Aside0.mk A90
  clear A90
  replace H := Option.bind_eq_some_iff.mp H
  obtain ⟨t285, A100, H⟩ := H
  have A10 := Aside0.mk A100
  clear A100
  replace H := Option.bind_eq_some_iff.mp H
  obtain ⟨⟨t289, t292⟩, A110, H⟩ := H
  have A11 := Aside0.mk A110
  clear A110
  have HC12 := Aside0.mk H
  clear H
  go_enter Try.func5, Try.ntmps5
  go_upto_region 8 with (first | ((with_reducible refine gd_ 2 rfl ?_); refine bv_ 2 #[.slice A0_0 l0_0.length c0_0] 24 ?_; intro gb275 hg w13 hbox hb; have BK275 := Aside0.mk (hbox); have GW275 := gw_ HB hg; have GE275 := gw_ HB hg; replace HB := Aside0.mk (below_step (be_ HB) hb); clear hb hbox hg; obtain ⟨hcz14_0, hfz14_0⟩ := bz1_ BK275) | ((with_reducible refine gc_ 15 rfl ?_); refine gl_ 18 Try.func15 #[.agg #[.slice A0_0 l0_0.length c0_0], .int .i64 1048576] ?_; (with_reducible refine (laws_szHeap.calls _ _ l0_0 1048576 t276 _ ?side1 ?side2 A3.out).mono ?_); (case side1 => repeat (first | exact (Kd.C_below HR0_0.out HB.out) | (with_reducible refine Kd.C_alloc ?_ _) | (with_reducible refine Kd.C_drewN ?_ _) | (with_reducible refine Kd.C_drew ?_))); (case side2 => exact HC0_0.out); rintro e w15 ⟨rfl, hb⟩; refine ⟨_, rfl, ?_⟩; replace BK275 := bb_ BK275 hb; replace HB := Aside0.mk (below_step (bf_ HB) hb); (try clear hb); (try clear hb2); (try clear hk); (try clear hi); obtain ⟨hcz16_0, hfz16_0⟩ := bz1_ BK275) | ((with_reducible refine gc_ 17 rfl ?_); refine gl_ 23 Try.func17 #[.agg #[.slice A0_0 l0_0.length c0_0]] ?_; (with_reducible refine (laws_toHeap.calls k _ _ l0_0 t277 _ ?side1 ?side2 A8.out).mono ?_); (case side1 => repeat (first | exact (Kd.C_below HR0_0.out HB.out) | (with_reducible refine Kd.C_alloc ?_ _) | (with_reducible refine Kd.C_drewN ?_ _) | (with_reducible refine Kd.C_drew ?_))); (case side2 => exact HC0_0.out); rintro e w17 ⟨v278, rfl, ho0, hb⟩; refine ⟨_, rfl, ?_⟩; have HO279 := Aside0.mk (Kd.R_lower ho0 (below_size (bf_ HB))); replace BK275 := bb_ BK275 hb; replace HB := Aside0.mk (below_step (bf_ HB) hb); (try clear hb); (try clear hb2); (try clear hk); (try clear hi); (try clear ho0); obtain ⟨Ao18, co18, eo18⟩ := Kd.R_slice HO279.out; subst eo18) | ((with_reducible refine gc_ 35 rfl ?_); refine gl_ 25 Try.func35 #[.agg #[.slice Ao18 t277.length co18], .int .i64 a1] ?_; (with_reducible refine (spec_HeapDrop.calls k _ _ t277 a1 t280 t283 _ ?side1 ?side2 A9.out).mono ?_); (case side1 => exact cr_ HO279); (case side2 => exact (Kd.R_reads' HO279.out).2.1); rintro e w19 ⟨v281, rfl, ho0, hb⟩; refine ⟨_, rfl, ?_⟩; have HO282 := Aside0.mk (Kd.R_lower (Kd.R_new' ho0 (Kd.R_lt (kr_ HO279))) (below_size (bf_ HB))); replace HO279 := Aside0.mk (Kd.R_elder' (kr_ HO279) (Kd.R_base ho0) hb); replace BK275 := bb_ BK275 hb; replace HB := Aside0.mk (below_step (bf_ HB) hb); (try clear hb); (try clear hb2); (try clear hk); (try clear hi); (try clear ho0)) | ((with_reducible refine gd_ 6 rfl ?_); refine bv_ 6 #[.slice none 0 0] 29 ?_; intro gb284 hg w20 hbox hb; replace HO279 := Aside0.mk (Kd.R_below (kr_ HO279) hb); replace HO282 := Aside0.mk (Kd.R_below (kr_ HO282) hb); have BK284 := Aside0.mk (hbox); have GW284 := gw_ HB hg; have GE284 := gw_ HB hg; replace HB := Aside0.mk (below_step (bf_ HB) hb); have NB275_284 := nl_ BK275 hg; have NB284_275 := ng_ BK275 hg; replace BK275 := bb_ BK275 hb; clear hb hbox hg; obtain ⟨Ao21, co21, eo21⟩ := Kd.R_slice HO282.out; subst eo21; have hnb22 := NB284_275.out; have hnc22 := NB275_284.out; obtain ⟨hcz23_0, hfz23_0⟩ := bz1_ BK284; obtain ⟨hcz24_0, hfz24_0⟩ := bz1_ BK275) | ((with_reducible refine gc_ 17 rfl ?_); refine gl_ 29 Try.func17 #[.agg #[.slice A0_0 l0_0.length c0_0]] ?_; (with_reducible refine (laws_toHeap.calls k _ _ l0_0 t285 _ ?side1 ?side2 A10.out).mono ?_); (case side1 => exact Kd.C_below HR0_0.out (bf_ HB)); (case side2 => exact HC0_0.out); rintro e w25 ⟨v286, rfl, ho0, hb⟩; refine ⟨_, rfl, ?_⟩; have HO287 := Aside0.mk (Kd.R_lower (Kd.R_new' (Kd.R_new' ho0 (Kd.R_lt (by (with_reducible repeat (first | apply Kd.R_alloc | apply Kd.R_drewN | apply Kd.R_drew)); exact (rf1_ HO279 BK284 (.slice Ao21 t280.length co21))))) (Kd.R_lt (by (with_reducible repeat (first | apply Kd.R_alloc | apply Kd.R_drewN | apply Kd.R_drew)); exact (rf1_ HO282 BK284 (.slice Ao21 t280.length co21))))) (below_size (bf_ HB))); replace HO279 := Aside0.mk (Kd.R_elder' (by (with_reducible repeat (first | apply Kd.R_alloc | apply Kd.R_drewN | apply Kd.R_drew)); exact (rf1_ HO279 BK284 (.slice Ao21 t280.length co21))) (Kd.R_base ho0) hb); replace HO282 := Aside0.mk (Kd.R_elder' (by (with_reducible repeat (first | apply Kd.R_alloc | apply Kd.R_drewN | apply Kd.R_drew)); exact (rf1_ HO282 BK284 (.slice Ao21 t280.length co21))) (Kd.R_base ho0) hb); replace BK275 := bm_ BK275 hb; replace BK284 := Aside0.mk (blk_below (g := gb284) (o := .cells #[.slice Ao21 t280.length co21] 29 (0, 0)) (by (with_reducible repeat (first | refine blk_drewN ?_ _ | refine blk_drew ?_ | refine blk_alloc ?_ _)); refine blk_put (cs := #[.slice none 0 0]) ?_ 0 _ rfl; exact bk_ BK284) hb); replace HB := Aside0.mk (below_step (bf_ HB) hb); (try clear hb); (try clear hb2); (try clear hk); (try clear hi); (try clear ho0)) | ((with_reducible refine gd_ 8 rfl ?_); refine bv_ 8 #[.slice none 0 0] 29 ?_; intro gb288 hg w26 hbox hb; replace HO279 := Aside0.mk (Kd.R_below (kr_ HO279) hb); replace HO282 := Aside0.mk (Kd.R_below (kr_ HO282) hb); replace HO287 := Aside0.mk (Kd.R_below (kr_ HO287) hb); have BK288 := Aside0.mk (hbox); have GW288 := gw_ HB hg; have GE288 := gw_ HB hg; replace HB := Aside0.mk (below_step (bf_ HB) hb); have NB275_288 := nl_ BK275 hg; have NB288_275 := ng_ BK275 hg; replace BK275 := bb_ BK275 hb; have NB284_288 := nl_ BK284 hg; have NB288_284 := ng_ BK284 hg; replace BK284 := bb_ BK284 hb; clear hb hbox hg; obtain ⟨Ao27, co27, eo27⟩ := Kd.R_slice HO287.out; subst eo27; have hnb28 := NB288_275.out; have hnc28 := NB275_288.out; have hnb29 := NB288_284.out; have hnc29 := NB284_288.out; obtain ⟨hcz30_0, hfz30_0⟩ := bz1_ BK288) | ((with_reducible refine gc_ 36 rfl ?_); refine gl_ 33 Try.func36 #[.agg #[.slice Ao27 t285.length co27], .int .i64 a1] ?_; (with_reducible refine (impl_HeapDrop.calls k _ _ t285 a1 t289 t292 _ ?side1 ?side2 A11.out).mono ?_); (case side1 => refine (Kd.R_reads' (e := 68) (base := w.heap.size) (ok := fun k_ => ((True ∧ some k_ ≠ (.slice Ao18 t277.length co18 : Value).ownBlock) ∧ some k_ ≠ (.slice Ao21 t280.length co21 : Value).ownBlock)) (n := t285.length) (c := co27) ?_).2.2; exact (by (with_reducible repeat (first | apply Kd.R_alloc | apply Kd.R_drewN | apply Kd.R_drew)); exact (rf1_ HO287 BK288 (.slice Ao27 t285.length co27)))); (case side2 => exact (Kd.R_reads' HO287.out).2.1); rintro e w31 ⟨v290, rfl, ho0, hb⟩; refine ⟨_, rfl, ?_⟩; have HO291 := Aside0.mk (Kd.R_lower (Kd.R_new' (Kd.R_new' (Kd.R_new' ho0 (Kd.R_lt (by (with_reducible repeat (first | apply Kd.R_alloc | apply Kd.R_drewN | apply Kd.R_drew)); exact (rf1_ HO279 BK288 (.slice Ao27 t285.length co27))))) (Kd.R_lt (by (with_reducible repeat (first | apply Kd.R_alloc | apply Kd.R_drewN | apply Kd.R_drew)); exact (rf1_ HO282 BK288 (.slice Ao27 t285.length co27))))) (Kd.R_lt (by (with_reducible repeat (first | apply Kd.R_alloc | apply Kd.R_drewN | apply Kd.R_drew)); exact (rf1_ HO287 BK288 (.slice Ao27 t285.length co27))))) (below_size (bf_ HB))); replace HO279 := Aside0.mk (Kd.R_elder' (by (with_reducible repeat (first | apply Kd.R_alloc | apply Kd.R_drewN | apply Kd.R_drew)); exact (rf1_ HO279 BK288 (.slice Ao27 t285.length co27))) (Kd.R_base ho0) hb); replace HO282 := Aside0.mk (Kd.R_elder' (by (with_reducible repeat (first | apply Kd.R_alloc | apply Kd.R_drewN | apply Kd.R_drew)); exact (rf1_ HO282 BK288 (.slice Ao27 t285.length co27))) (Kd.R_base ho0) hb); replace HO287 := Aside0.mk (Kd.R_elder' (by (with_reducible repeat (first | apply Kd.R_alloc | apply Kd.R_drewN | apply Kd.R_drew)); exact (rf1_ HO287 BK288 (.slice Ao27 t285.length co27))) (Kd.R_base ho0) hb); replace BK275 := bm_ BK275 hb; replace BK284 := bm_ BK284 hb; replace BK288 := Aside0.mk (blk_below (g := gb288) (o := .cells #[.slice Ao27 t285.length co27] 29 (0, 0)) (by (with_reducible repeat (first | refine blk_drewN ?_ _ | refine blk_drew ?_ | refine blk_alloc ?_ _)); refine blk_put (cs := #[.slice none 0 0]) ?_ 0 _ rfl; exact bk_ BK288) hb); replace HB := Aside0.mk (below_step (bf_ HB) hb); (try clear hb); (try clear hb2); (try clear hk); (try clear hi); (try clear ho0)) | ((with_reducible refine gd_ 9 rfl ?_); refine bv_ 9 #[.slice none 0 0] 29 ?_; intro gb293 hg w32 hbox hb; replace HO279 := Aside0.mk (Kd.R_below (kr_ HO279) hb); replace HO282 := Aside0.mk (Kd.R_below (kr_ HO282) hb); replace HO287 := Aside0.mk (Kd.R_below (kr_ HO287) hb); replace HO291 := Aside0.mk (Kd.R_below (kr_ HO291) hb); have BK293 := Aside0.mk (hbox); have GW293 := gw_ HB hg; have GE293 := gw_ HB hg; replace HB := Aside0.mk (below_step (bf_ HB) hb); have NB275_293 := nl_ BK275 hg; have NB293_275 := ng_ BK275 hg; replace BK275 := bb_ BK275 hb; have NB284_293 := nl_ BK284 hg; have NB293_284 := ng_ BK284 hg; replace BK284 := bb_ BK284 hb; have NB288_293 := nl_ BK288 hg; have NB293_288 := ng_ BK288 hg; replace BK288 := bb_ BK288 hb; clear hb hbox hg; obtain ⟨Ao33, co33, eo33⟩ := Kd.R_slice HO291.out; subst eo33; have hnb34 := NB293_275.out; have hnc34 := NB275_293.out; have hnb35 := NB293_284.out; have hnc35 := NB284_293.out; have hnb36 := NB293_288.out; have hnc36 := NB288_293.out; obtain ⟨hcz37_0, hfz37_0⟩ := bz1_ BK293))
  (try simp only [Act.put, ls0_, ls1_, ls2_])
  go_cut [44] (fun v44 wc => ∃ (kq : Nat) (x44_11 : Bool), v44 = .bool x44_11 ∧ Aside0 (laws_FnExactHeapDrop.j0 kq a1 t283 t292 x44_11 l0_0 t280 t285 t289 = some r) ∧ Aside0 (kq ≤ k) ∧ Aside0 (Kd.R k68 68 wc w.heap.size (fun k_ => some k_ ≠ ((.slice Ao27 t285.length co27) : Value).ownBlock ∧ some k_ ≠ ((.slice Ao33 t289.length co33) : Value).ownBlock) (.slice Ao21 t280.length co21) t280) ∧ Aside0 (Kd.R k68 68 wc w.heap.size (fun k_ => some k_ ≠ ((.slice Ao21 t280.length co21) : Value).ownBlock ∧ some k_ ≠ ((.slice Ao33 t289.length co33) : Value).ownBlock) (.slice Ao27 t285.length co27) t285) ∧ Aside0 (Kd.R k68 68 wc w.heap.size (fun k_ => some k_ ≠ ((.slice Ao21 t280.length co21) : Value).ownBlock ∧ some k_ ≠ ((.slice Ao27 t285.length co27) : Value).ownBlock) (.slice Ao33 t289.length co33) t289) ∧ Aside0 (wc.heap[gb275]? = some (.cells #[(.slice A0_0 l0_0.length c0_0)] 24 (0, 0))) ∧ Aside0 (wc.heap[gb284]? = some (.cells #[(.slice Ao21 t280.length co21)] 29 (0, 0))) ∧ Aside0 (wc.heap[gb288]? = some (.cells #[(.slice Ao27 t285.length co27)] 29 (0, 0))) ∧ Aside0 (wc.heap[gb293]? = some (.cells #[(.slice Ao33 t289.length co33)] 29 (0, 0))) ∧ Aside0 (Below w.heap.size w wc))
  case first =>
   have H := HC12.out
   clear HC12
   replace H := Option.bind_eq_some_iff.mp H
   obtain ⟨t294, A380, H⟩ := H
   have A38 := Aside0.mk A380
   clear A380
   by_cases c39 : t294 = true
   ·subst c39
    rw [if_pos rfl] at H
    have H' := Aside0.mk H
    clear H; have hnb40 := NB293_275.out; have hnc40 := NB275_293.out; have hnb41 := NB293_284.out; have hnc41 := NB284_293.out; have hnb42 := NB293_288.out; have hnc42 := NB288_293.out; obtain ⟨hcz43_0, hfz43_0⟩ := bz1_ BK293; have hnb44 := NB284_275.out; have hnc44 := NB275_284.out; have hnb45 := NB284_288.out; have hnc45 := NB288_284.out; obtain ⟨hcz46_0, hfz46_0⟩ := bz1_ BK284
    go_wp2_with (first | ((with_reducible refine gc_ 20 rfl ?_); refine gl_ 38 Try.func20 #[.agg #[.slice Ao33 t289.length co33], .agg #[.slice Ao21 t280.length co21]] ?_; (with_reducible refine (laws_eqHeap.calls k _ _ t289 _ _ t280 true _ ?side1 ?side2 ?side3 ?side4 A38.out).mono ?_); (case side1 => refine (Kd.R_reads' (e := 68) (base := w.heap.size) (ok := fun k_ => (((True ∧ some k_ ≠ (.slice Ao18 t277.length co18 : Value).ownBlock) ∧ some k_ ≠ (.slice Ao21 t280.length co21 : Value).ownBlock) ∧ some k_ ≠ (.slice Ao27 t285.length co27 : Value).ownBlock)) (n := t289.length) (c := co33) ?_).2.2; exact (by (with_reducible repeat (first | apply Kd.R_alloc | apply Kd.R_drewN | apply Kd.R_drew)); exact (rf1_ HO291 BK293 (.slice Ao33 t289.length co33)))); (case side2 => exact (Kd.R_reads' HO291.out).2.1); (case side3 => refine (Kd.R_reads' (e := 68) (base := w.heap.size) (ok := fun k_ => (((True ∧ some k_ ≠ (.slice Ao18 t277.length co18 : Value).ownBlock) ∧ some k_ ≠ (.slice Ao27 t285.length co27 : Value).ownBlock) ∧ some k_ ≠ (.slice Ao33 t289.length co33 : Value).ownBlock)) (n := t280.length) (c := co21) ?_).2.2; exact (by (with_reducible repeat (first | apply Kd.R_alloc | apply Kd.R_drewN | apply Kd.R_drew)); exact (rf1_ HO282 BK293 (.slice Ao33 t289.length co33)))); (case side4 => exact (Kd.R_reads' HO282.out).2.1); rintro e w47 ⟨rfl, hb⟩; refine ⟨_, rfl, ?_⟩; replace HO279 := Aside0.mk (Kd.R_below (by (with_reducible repeat (first | apply Kd.R_alloc | apply Kd.R_drewN | apply Kd.R_drew)); exact (rf1_ HO279 BK293 (.slice Ao33 t289.length co33))) hb); replace HO282 := Aside0.mk (Kd.R_below (by (with_reducible repeat (first | apply Kd.R_alloc | apply Kd.R_drewN | apply Kd.R_drew)); exact (rf1_ HO282 BK293 (.slice Ao33 t289.length co33))) hb); replace HO287 := Aside0.mk (Kd.R_below (by (with_reducible repeat (first | apply Kd.R_alloc | apply Kd.R_drewN | apply Kd.R_drew)); exact (rf1_ HO287 BK293 (.slice Ao33 t289.length co33))) hb); replace HO291 := Aside0.mk (Kd.R_below (by (with_reducible repeat (first | apply Kd.R_alloc | apply Kd.R_drewN | apply Kd.R_drew)); exact (rf1_ HO291 BK293 (.slice Ao33 t289.length co33))) hb); replace BK275 := bm_ BK275 hb; replace BK284 := bm_ BK284 hb; replace BK288 := bm_ BK288 hb; replace BK293 := Aside0.mk (blk_below (g := gb293) (o := .cells #[.slice Ao33 t289.length co33] 29 (0, 0)) (by (with_reducible repeat (first | refine blk_drewN ?_ _ | refine blk_drew ?_ | refine blk_alloc ?_ _)); refine blk_put (cs := #[.slice none 0 0]) ?_ 0 _ rfl; exact bk_ BK293) hb); replace HB := Aside0.mk (below_step (bf_ HB) hb); (try clear hb); (try clear hb2); (try clear hk); (try clear hi)))
    go_meet
    case rel => exact ⟨_, ((t292 != t283)), (by first | rfl | (simp; done) | (simp [*]; done)), H', ⟨by first | omega | exact Nat.le_refl _⟩, ⟨by (with_reducible repeat (first | apply Kd.R_alloc | apply Kd.R_drewN | apply Kd.R_drew)); exact Kd.R_mono HO282.out (fun _ hk => by first | exact ⟨hk.1.2, hk.2⟩ | grind)⟩, ⟨by (with_reducible repeat (first | apply Kd.R_alloc | apply Kd.R_drewN | apply Kd.R_drew)); exact Kd.R_mono HO287.out (fun _ hk => by first | exact ⟨hk.1.2, hk.2⟩ | grind)⟩, ⟨by (with_reducible repeat (first | apply Kd.R_alloc | apply Kd.R_drewN | apply Kd.R_drew)); exact Kd.R_mono HO291.out (fun _ hk => by first | exact ⟨hk.1.2, hk.2⟩ | grind)⟩, ⟨bk_ BK275⟩, ⟨bk_ BK284⟩, ⟨bk_ BK288⟩, ⟨bk_ BK293⟩, ⟨bf_ HB⟩⟩
   ·replace c39 := Bool.eq_false_iff.mpr c39
    subst c39
    rw [if_neg (show ¬ (false = true) by decide)] at H
    have H' := Aside0.mk H
    clear H; have hnb48 := NB293_275.out; have hnc48 := NB275_293.out; have hnb49 := NB293_284.out; have hnc49 := NB284_293.out; have hnb50 := NB293_288.out; have hnc50 := NB288_293.out; obtain ⟨hcz51_0, hfz51_0⟩ := bz1_ BK293; have hnb52 := NB284_275.out; have hnc52 := NB275_284.out; have hnb53 := NB284_288.out; have hnc53 := NB288_284.out; obtain ⟨hcz54_0, hfz54_0⟩ := bz1_ BK284
    go_wp2_with (first | ((with_reducible refine gc_ 20 rfl ?_); refine gl_ 38 Try.func20 #[.agg #[.slice Ao33 t289.length co33], .agg #[.slice Ao21 t280.length co21]] ?_; (with_reducible refine (laws_eqHeap.calls k _ _ t289 _ _ t280 false _ ?side1 ?side2 ?side3 ?side4 A38.out).mono ?_); (case side1 => refine (Kd.R_reads' (e := 68) (base := w.heap.size) (ok := fun k_ => (((True ∧ some k_ ≠ (.slice Ao18 t277.length co18 : Value).ownBlock) ∧ some k_ ≠ (.slice Ao21 t280.length co21 : Value).ownBlock) ∧ some k_ ≠ (.slice Ao27 t285.length co27 : Value).ownBlock)) (n := t289.length) (c := co33) ?_).2.2; exact (by (with_reducible repeat (first | apply Kd.R_alloc | apply Kd.R_drewN | apply Kd.R_drew)); exact (rf1_ HO291 BK293 (.slice Ao33 t289.length co33)))); (case side2 => exact (Kd.R_reads' HO291.out).2.1); (case side3 => refine (Kd.R_reads' (e := 68) (base := w.heap.size) (ok := fun k_ => (((True ∧ some k_ ≠ (.slice Ao18 t277.length co18 : Value).ownBlock) ∧ some k_ ≠ (.slice Ao27 t285.length co27 : Value).ownBlock) ∧ some k_ ≠ (.slice Ao33 t289.length co33 : Value).ownBlock)) (n := t280.length) (c := co21) ?_).2.2; exact (by (with_reducible repeat (first | apply Kd.R_alloc | apply Kd.R_drewN | apply Kd.R_drew)); exact (rf1_ HO282 BK293 (.slice Ao33 t289.length co33)))); (case side4 => exact (Kd.R_reads' HO282.out).2.1); rintro e w55 ⟨rfl, hb⟩; refine ⟨_, rfl, ?_⟩; replace HO279 := Aside0.mk (Kd.R_below (by (with_reducible repeat (first | apply Kd.R_alloc | apply Kd.R_drewN | apply Kd.R_drew)); exact (rf1_ HO279 BK293 (.slice Ao33 t289.length co33))) hb); replace HO282 := Aside0.mk (Kd.R_below (by (with_reducible repeat (first | apply Kd.R_alloc | apply Kd.R_drewN | apply Kd.R_drew)); exact (rf1_ HO282 BK293 (.slice Ao33 t289.length co33))) hb); replace HO287 := Aside0.mk (Kd.R_below (by (with_reducible repeat (first | apply Kd.R_alloc | apply Kd.R_drewN | apply Kd.R_drew)); exact (rf1_ HO287 BK293 (.slice Ao33 t289.length co33))) hb); replace HO291 := Aside0.mk (Kd.R_below (by (with_reducible repeat (first | apply Kd.R_alloc | apply Kd.R_drewN | apply Kd.R_drew)); exact (rf1_ HO291 BK293 (.slice Ao33 t289.length co33))) hb); replace BK275 := bm_ BK275 hb; replace BK284 := bm_ BK284 hb; replace BK288 := bm_ BK288 hb; replace BK293 := Aside0.mk (blk_below (g := gb293) (o := .cells #[.slice Ao33 t289.length co33] 29 (0, 0)) (by (with_reducible repeat (first | refine blk_drewN ?_ _ | refine blk_drew ?_ | refine blk_alloc ?_ _)); refine blk_put (cs := #[.slice none 0 0]) ?_ 0 _ rfl; exact bk_ BK293) hb); replace HB := Aside0.mk (below_step (bf_ HB) hb); (try clear hb); (try clear hb2); (try clear hk); (try clear hi)))
    go_meet
    case rel => exact ⟨_, (true), (by first | rfl | (simp; done) | (simp [*]; done)), H', ⟨by first | omega | exact Nat.le_refl _⟩, ⟨by (with_reducible repeat (first | apply Kd.R_alloc | apply Kd.R_drewN | apply Kd.R_drew)); exact Kd.R_mono HO282.out (fun _ hk => by first | exact ⟨hk.1.2, hk.2⟩ | grind)⟩, ⟨by (with_reducible repeat (first | apply Kd.R_alloc | apply Kd.R_drewN | apply Kd.R_drew)); exact Kd.R_mono HO287.out (fun _ hk => by first | exact ⟨hk.1.2, hk.2⟩ | grind)⟩, ⟨by (with_reducible repeat (first | apply Kd.R_alloc | apply Kd.R_drewN | apply Kd.R_drew)); exact Kd.R_mono HO291.out (fun _ hk => by first | exact ⟨hk.1.2, hk.2⟩ | grind)⟩, ⟨bk_ BK275⟩, ⟨bk_ BK284⟩, ⟨bk_ BK288⟩, ⟨bk_ BK293⟩, ⟨bf_ HB⟩⟩
  case rest =>
   clear HC12; (try clear c1); (try clear c2); (try clear p2); (try clear c3); (try clear c4); (try clear c4b0); (try clear c5); (try clear c15); (try clear c17); (try clear c20); (try clear c22); (try clear c28); (try clear c29); (try clear c34); (try clear c35); (try clear c36); (try clear c39); (try clear c40); (try clear c41); (try clear c42); (try clear c44); (try clear c45); (try clear c48); (try clear c49); (try clear c50); (try clear c52); (try clear c53); (try clear hcz14_0 hfz14_0); (try clear hcz16_0 hfz16_0); (try clear hcz23_0 hfz23_0); (try clear hcz24_0 hfz24_0); (try clear hcz30_0 hfz30_0); (try clear hcz37_0 hfz37_0); (try clear hcz43_0 hfz43_0); (try clear hcz46_0 hfz46_0); (try clear hcz51_0 hfz51_0); (try clear hcz54_0 hfz54_0); (try clear hcz6_0 hfz6_0)
   obtain ⟨kq, x44_11, rfl, HA, HJ11, HO_285000, HO_289000, HO_294000, BK275, BK284, BK288, BK293, HB⟩ := hcut
   cases kq with
   | zero => exact absurd HA.out (by simp [laws_FnExactHeapDrop.j0])
   | succ kj11 =>
    have H := HA.out
    clear HA
    simp only [laws_FnExactHeapDrop.j0] at H
    by_cases c56 : x44_11 = true
    ·subst c56
     rw [if_pos rfl] at H
     obtain rfl := Option.some.inj H
     go_wp2
     go_ret
     exact ⟨by first | rfl | (simp [errW_none, errW_some] <;> rfl) | (simp [*, errW_none, errW_some] <;> rfl), bf_ HB⟩
    ·replace c56 := Bool.eq_false_iff.mpr c56
     subst c56
     rw [if_neg (show ¬ (false = true) by decide)] at H
     replace H := Option.bind_eq_some_iff.mp H
     obtain ⟨t295, A570, H⟩ := H
     have A57 := Aside0.mk A570
     clear A570
     replace H := Option.bind_eq_some_iff.mp H
     obtain ⟨t298, A580, H⟩ := H
     have A58 := Aside0.mk A580
     clear A580
     by_cases c59 : t298 = true
     ·subst c59
      rw [if_pos rfl] at H
      replace H := Option.bind_eq_some_iff.mp H
      obtain ⟨⟨t299, t300⟩, A600, H⟩ := H
      have A60 := Aside0.mk A600
      clear A600
      have HC61 := Aside0.mk H
      clear H
      try go_wp2
      replace HO_285000 := Aside0.mk (Kd.R_drew HO_285000.out); replace HO_289000 := Aside0.mk (Kd.R_drew HO_289000.out); replace HO_294000 := Aside0.mk (Kd.R_drew HO_294000.out); replace BK275 := Aside0.mk (blk_drew BK275.out); replace BK284 := Aside0.mk (blk_drew BK284.out); replace BK288 := Aside0.mk (blk_drew BK288.out); replace BK293 := Aside0.mk (blk_drew BK293.out); replace HB := Aside0.mk (below_drew1 HB.out)
      refine start_ (n := 5) (S := fun w' => cw_ w' gb288 0 (.slice Ao27 t285.length co27) ∧ cw_ w' gb275 0 (.slice A0_0 l0_0.length c0_0)) (ds := []) (bs 5 0) (by kernel_rfl) rfl rfl ⟨bt_ BK288 0, bt_ BK275 0⟩ (fun hHeld => ?_)
      generalize wc.drew = w62 at HO_285000 HO_289000 HO_294000 BK275 BK284 BK288 BK293 HB hHeld ⊢
      refine tk0_ 0 45 (bs 5 1) hHeld ?_
      refine tk0_ 1 46 (bs 5 2) hHeld ?_
      refine on0_ 2 (some 47) (bs 5 3) (fun K hK => ?_)
      refine gs_ Try.func17 #[.agg #[.slice A0_0 l0_0.length c0_0]] ?_
      with_reducible refine (laws_toHeap.calls kj11 _ _ l0_0 t295 _ ?side1 ?side2 A57.out).mono ?_
      (case side1 => repeat (first | exact (Kd.C_below HR0_0.out HB.out) | (with_reducible refine Kd.C_alloc ?_ _) | (with_reducible refine Kd.C_drewN ?_ _) | (with_reducible refine Kd.C_drew ?_)))
      (case side2 => exact HC0_0.out)
      rintro e w63 ⟨v296, rfl, ho0, hb⟩
      refine ⟨_, rfl, ?_⟩
      have HO297 := Aside0.mk (Kd.R_lower (Kd.R_new' (Kd.R_new' (Kd.R_new' ho0 (Kd.R_lt (kr_ HO_285000))) (Kd.R_lt (kr_ HO_289000))) (Kd.R_lt (kr_ HO_294000))) (below_size (bf_ HB))); replace HO_285000 := Aside0.mk (Kd.R_elder' (kr_ HO_285000) (Kd.R_base ho0) hb); replace HO_289000 := Aside0.mk (Kd.R_elder' (kr_ HO_289000) (Kd.R_base ho0) hb); replace HO_294000 := Aside0.mk (Kd.R_elder' (kr_ HO_294000) (Kd.R_base ho0) hb); replace BK275 := bb_ BK275 hb; replace BK284 := bb_ BK284 hb; replace BK288 := bb_ BK288 hb; replace BK293 := bb_ BK293 hb; replace HB := Aside0.mk (below_step (bf_ HB) hb); (try clear hb); (try clear hb2); (try clear hk); (try clear hi); (try clear ho0)
      obtain ⟨Ao64, co64, eo64⟩ := Kd.R_slice HO297.out
      (first | subst eo64 | (injection eo64 with f1_ f2_ f3_; have f4_ := f1_.symm; have f5_ := f3_.symm; clear f1_ f2_ f3_; subst f4_; subst f5_))
      refine hK.out _ _ ⟨bt_ BK288 0, bt_ BK275 0⟩ (fun hHeld => ?_)
      clear hK K
      refine norm_ (a' := ?_) ?_ ?_
      rotate_left
      ·show Act.put _ (some 47) _ = _
       simp only [Act.put, ls0_, ls1_, ls2_, i64_w, i32_w]
       rfl
      refine on0_ 3 (some 48) (bs 5 4) (fun K hK => ?_)
      refine gs_ Try.func20 #[.agg #[.slice Ao27 t285.length co27], .agg #[.slice Ao64 t295.length co64]] ?_
      with_reducible refine (laws_eqHeap.calls kj11 _ _ t285 _ _ t295 true _ ?side1 ?side2 ?side3 ?side4 A58.out).mono ?_
      (case side1 => exact cr_ HO_289000)
      (case side2 => exact (Kd.R_reads' HO_289000.out).2.1)
      (case side3 => exact cr_ HO297)
      (case side4 => exact (Kd.R_reads' HO297.out).2.1)
      rintro e w65 ⟨rfl, hb⟩
      refine ⟨_, rfl, ?_⟩
      replace HO_285000 := Aside0.mk (Kd.R_below (kr_ HO_285000) hb); replace HO_289000 := Aside0.mk (Kd.R_below (kr_ HO_289000) hb); replace HO_294000 := Aside0.mk (Kd.R_below (kr_ HO_294000) hb); replace HO297 := Aside0.mk (Kd.R_below (kr_ HO297) hb); replace BK275 := bb_ BK275 hb; replace BK284 := bb_ BK284 hb; replace BK288 := bb_ BK288 hb; replace BK293 := bb_ BK293 hb; replace HB := Aside0.mk (below_step (bf_ HB) hb); (try clear hb); (try clear hb2); (try clear hk); (try clear hi)
      refine hK.out _ _ ⟨bt_ BK288 0, bt_ BK275 0⟩ (fun hHeld => ?_)
      clear hK K
      refine norm_ (a' := ?_) ?_ ?_
      rotate_left
      ·show Act.put _ (some 48) _ = _
       simp only [Act.put, ls0_, ls1_, ls2_, i64_w, i32_w]
       rfl
      refine ps0_ 4 49 (bs 5 5) ?_
      refine done_ (by kernel_rfl) ?_
      have hnb66 := NB288_275.out; have hnc66 := NB275_288.out; have hnb67 := NB288_284.out; have hnc67 := NB284_288.out; have hnb68 := NB288_293.out; have hnc68 := NB293_288.out; obtain ⟨hcz69_0, hfz69_0⟩ := bz1_ BK288
      go_upto_region 14 with (first | ((with_reducible refine gc_ 21 rfl ?_); refine gl_ 52 Try.func21 #[.agg #[.slice Ao27 t285.length co27], .int .i64 1] ?_; (with_reducible refine (laws_markHeap.calls kj11 (fun k_ => some k_ = (.slice Ao27 t285.length co27 : Value).ownBlock) (.slice Ao27 t285.length co27) t285 1 t299 t300 w _ ?side1 ?side2 A60.out).mono ?_); (case side1 => repeat (first | (with_reducible first | exact HB.out | apply below_alloc | apply pw_below_drewN | apply below_drew1 | refine below_set ?_ GE275.out | refine below_set ?_ GE284.out | refine below_set ?_ GE288.out | refine below_set ?_ GE293.out) | exact HB.out)); (case side2 => exact Kd.R_tight rfl HO_289000.out); rintro e w70 ⟨rfl, hy0, hb, hkp⟩; refine ⟨_, rfl, ?_⟩; replace HO_285000 := Aside0.mk (Kd.R_mono (ok' := fun k_ => some k_ ≠ (.slice Ao27 t285.length co27 : Value).ownBlock ∧ some k_ ≠ (.slice Ao33 t289.length co33 : Value).ownBlock ∧ some k_ ≠ (.slice Ao64 t295.length co64 : Value).ownBlock) (Kd.R_keptB (HO_285000.out) hkp (fun k_ hk_ hs_ => by first | exact (hk_.1.1) hs_ | grind)) (fun k_ hk_ => by first | exact ⟨hk_.1.1.1, hk_.1.1.2, hk_.1.2⟩ | grind)); replace HO_294000 := Aside0.mk (Kd.R_mono (ok' := fun k_ => some k_ ≠ (.slice Ao21 t280.length co21 : Value).ownBlock ∧ some k_ ≠ (.slice Ao27 t285.length co27 : Value).ownBlock ∧ some k_ ≠ (.slice Ao64 t295.length co64 : Value).ownBlock) (Kd.R_keptB (HO_294000.out) hkp (fun k_ hk_ hs_ => by first | exact (hk_.1.2) hs_ | grind)) (fun k_ hk_ => by first | exact ⟨hk_.1.1.1, hk_.1.1.2, hk_.1.2⟩ | grind)); replace BK275 := Aside0.mk (blk_kept (bk_ BK275) hkp (fun hs_ => (fun e_ => (Kd.R_ne HO_289000.out BK275.out (by decide)) e_) hs_)); replace BK284 := Aside0.mk (blk_kept (bk_ BK284) hkp (fun hs_ => (fun e_ => (Kd.R_ne HO_289000.out BK284.out (by decide)) e_) hs_)); replace BK288 := Aside0.mk (blk_kept (bk_ BK288) hkp (fun hs_ => (fun e_ => (Kd.R_ne HO_289000.out BK288.out (by decide)) e_) hs_)); replace BK293 := Aside0.mk (blk_kept (bk_ BK293) hkp (fun hs_ => (fun e_ => (Kd.R_ne HO_289000.out BK293.out (by decide)) e_) hs_)); replace HO_289000 := Aside0.mk (Kd.R_reok rfl hy0 (fun k_ e_ => HO_289000.out.1 k_ e_)); replace HO297 := Aside0.mk (Kd.R_mono (ok' := fun k_ => some k_ ≠ (.slice Ao21 t280.length co21 : Value).ownBlock ∧ some k_ ≠ (.slice Ao27 t285.length co27 : Value).ownBlock ∧ some k_ ≠ (.slice Ao33 t289.length co33 : Value).ownBlock) (Kd.R_keptB (HO297.out) hkp (fun k_ hk_ hs_ => by first | exact (hk_.1.2) hs_ | grind)) (fun k_ hk_ => by first | exact ⟨hk_.1.1.1.2, hk_.1.1.2, hk_.1.2⟩ | grind)); replace HB := Aside0.mk (hb); (try clear hb); (try clear hkp); (try clear hy0)))
      (try simp only [Act.put, ls0_, ls1_, ls2_])
      go_cut [65] (fun v65 wc => ∃ (kq : Nat) (x65_60 : Bool), v65 = .bool x65_60 ∧ Aside0 (laws_FnExactHeapDrop.j1 kq a1 t283 x65_60 l0_0 t280 t289 = some r) ∧ Aside0 (kq ≤ kj11) ∧ Aside0 (Kd.R k68 68 wc w.heap.size (fun k_ => some k_ ≠ ((.slice Ao27 t285.length co27) : Value).ownBlock ∧ some k_ ≠ ((.slice Ao33 t289.length co33) : Value).ownBlock) (.slice Ao21 t280.length co21) t280) ∧ Aside0 (Kd.R k68 68 wc w.heap.size (fun k_ => some k_ ≠ ((.slice Ao21 t280.length co21) : Value).ownBlock ∧ some k_ ≠ ((.slice Ao33 t289.length co33) : Value).ownBlock) (.slice Ao27 t285.length co27) t300) ∧ Aside0 (Kd.R k68 68 wc w.heap.size (fun k_ => some k_ ≠ ((.slice Ao21 t280.length co21) : Value).ownBlock ∧ some k_ ≠ ((.slice Ao27 t285.length co27) : Value).ownBlock) (.slice Ao33 t289.length co33) t289) ∧ Aside0 (wc.heap[gb275]? = some (.cells #[(.slice A0_0 l0_0.length c0_0)] 24 (0, 0))) ∧ Aside0 (wc.heap[gb284]? = some (.cells #[(.slice Ao21 t280.length co21)] 29 (0, 0))) ∧ Aside0 (wc.heap[gb288]? = some (.cells #[(.slice Ao27 t285.length co27)] 29 (0, 0))) ∧ Aside0 (wc.heap[gb293]? = some (.cells #[(.slice Ao33 t289.length co33)] 29 (0, 0))) ∧ Aside0 (Below w.heap.size w wc))
      case first =>
       have H := HC61.out
       clear HC61
       by_cases c71 : t299 < 0
       ·rw [if_pos c71] at H
        have c71b0 : decide (t299 < 0) = true := decide_eq_true c71
        clear c71
        (first | rw [c71b0] | (simp only [i64_w, i32_w]; rw [c71b0]) | skip)
        have H' := Aside0.mk H
        clear H
        go_wp2
        go_meet
        case rel => exact ⟨_, (true), (by first | rfl | (simp; done) | (simp [*]; done)), H', ⟨by have := HJ11.out; first | omega | exact Nat.le_refl _⟩, ⟨by (with_reducible repeat (first | apply Kd.R_alloc | apply Kd.R_drewN | apply Kd.R_drew)); exact Kd.R_mono HO_285000.out (fun _ hk => by first | exact ⟨hk.1, hk.2.1⟩ | grind)⟩, ⟨by (with_reducible repeat (first | apply Kd.R_alloc | apply Kd.R_drewN | apply Kd.R_drew)); exact Kd.R_mono HO_289000.out (fun _ hk => by first | exact ⟨hk.1.1, hk.1.2⟩ | grind)⟩, ⟨by (with_reducible repeat (first | apply Kd.R_alloc | apply Kd.R_drewN | apply Kd.R_drew)); exact Kd.R_mono HO_294000.out (fun _ hk => by first | exact ⟨hk.1, hk.2.1⟩ | grind)⟩, ⟨bk_ BK275⟩, ⟨bk_ BK284⟩, ⟨bk_ BK288⟩, ⟨bk_ BK293⟩, ⟨bf_ HB⟩⟩
       ·rw [if_neg c71] at H
        have c71b0 : decide (t299 < 0) = false := decide_eq_false c71
        clear c71
        (first | rw [c71b0] | (simp only [i64_w, i32_w]; rw [c71b0]) | skip)
        replace H := Option.bind_eq_some_iff.mp H
        obtain ⟨t301, A720, H⟩ := H
        have A72 := Aside0.mk A720
        clear A720
        by_cases c73 : t301 = true
        ·subst c73
         rw [if_pos rfl] at H
         have H' := Aside0.mk H
         clear H; have hnb74 := NB293_275.out; have hnc74 := NB275_293.out; have hnb75 := NB293_284.out; have hnc75 := NB284_293.out; have hnb76 := NB293_288.out; have hnc76 := NB288_293.out; obtain ⟨hcz77_0, hfz77_0⟩ := bz1_ BK293; have hnb78 := NB284_275.out; have hnc78 := NB275_284.out; have hnb79 := NB284_288.out; have hnc79 := NB288_284.out; obtain ⟨hcz80_0, hfz80_0⟩ := bz1_ BK284
         go_wp2_with (first | (go_at_call 20; (with_reducible refine (laws_eqHeap.calls kj11 _ _ t289 _ _ t280 true _ ?side1 ?side2 ?side3 ?side4 A72.out).mono ?_); (case side1 => exact cr_ HO_294000); (case side2 => exact (Kd.R_reads' HO_294000.out).2.1); (case side3 => exact cr_ HO_285000); (case side4 => exact (Kd.R_reads' HO_285000.out).2.1); rintro e w81 ⟨rfl, hb⟩; replace HO_285000 := Aside0.mk (Kd.R_below (kr_ HO_285000) hb); replace HO_289000 := Aside0.mk (Kd.R_below (kr_ HO_289000) hb); replace HO_294000 := Aside0.mk (Kd.R_below (kr_ HO_294000) hb); replace HO297 := Aside0.mk (Kd.R_below (kr_ HO297) hb); replace BK275 := bb_ BK275 hb; replace BK284 := bb_ BK284 hb; replace BK288 := bb_ BK288 hb; replace BK293 := bb_ BK293 hb; replace HB := Aside0.mk (below_step (bf_ HB) hb); (try clear hb); (try clear hb2); (try clear hk); (try clear hi)))
         go_meet
         case rel => exact ⟨_, ((t292 != t283)), (by first | rfl | (simp; done) | (simp [*]; done)), H', ⟨by have := HJ11.out; first | omega | exact Nat.le_refl _⟩, ⟨by (with_reducible repeat (first | apply Kd.R_alloc | apply Kd.R_drewN | apply Kd.R_drew)); exact Kd.R_mono HO_285000.out (fun _ hk => by first | exact ⟨hk.1, hk.2.1⟩ | grind)⟩, ⟨by (with_reducible repeat (first | apply Kd.R_alloc | apply Kd.R_drewN | apply Kd.R_drew)); exact Kd.R_mono HO_289000.out (fun _ hk => by first | exact ⟨hk.1.1, hk.1.2⟩ | grind)⟩, ⟨by (with_reducible repeat (first | apply Kd.R_alloc | apply Kd.R_drewN | apply Kd.R_drew)); exact Kd.R_mono HO_294000.out (fun _ hk => by first | exact ⟨hk.1, hk.2.1⟩ | grind)⟩, ⟨bk_ BK275⟩, ⟨bk_ BK284⟩, ⟨bk_ BK288⟩, ⟨bk_ BK293⟩, ⟨bf_ HB⟩⟩
        ·replace c73 := Bool.eq_false_iff.mpr c73
         subst c73
         rw [if_neg (show ¬ (false = true) by decide)] at H
         have H' := Aside0.mk H
         clear H; have hnb82 := NB293_275.out; have hnc82 := NB275_293.out; have hnb83 := NB293_284.out; have hnc83 := NB284_293.out; have hnb84 := NB293_288.out; have hnc84 := NB288_293.out; obtain ⟨hcz85_0, hfz85_0⟩ := bz1_ BK293; have hnb86 := NB284_275.out; have hnc86 := NB275_284.out; have hnb87 := NB284_288.out; have hnc87 := NB288_284.out; obtain ⟨hcz88_0, hfz88_0⟩ := bz1_ BK284
         go_wp2_with (first | (go_at_call 20; (with_reducible refine (laws_eqHeap.calls kj11 _ _ t289 _ _ t280 false _ ?side1 ?side2 ?side3 ?side4 A72.out).mono ?_); (case side1 => exact cr_ HO_294000); (case side2 => exact (Kd.R_reads' HO_294000.out).2.1); (case side3 => exact cr_ HO_285000); (case side4 => exact (Kd.R_reads' HO_285000.out).2.1); rintro e w89 ⟨rfl, hb⟩; replace HO_285000 := Aside0.mk (Kd.R_below (kr_ HO_285000) hb); replace HO_289000 := Aside0.mk (Kd.R_below (kr_ HO_289000) hb); replace HO_294000 := Aside0.mk (Kd.R_below (kr_ HO_294000) hb); replace HO297 := Aside0.mk (Kd.R_below (kr_ HO297) hb); replace BK275 := bb_ BK275 hb; replace BK284 := bb_ BK284 hb; replace BK288 := bb_ BK288 hb; replace BK293 := bb_ BK293 hb; replace HB := Aside0.mk (below_step (bf_ HB) hb); (try clear hb); (try clear hb2); (try clear hk); (try clear hi)))
         go_meet
         case rel => exact ⟨_, (true), (by first | rfl | (simp; done) | (simp [*]; done)), H', ⟨by have := HJ11.out; first | omega | exact Nat.le_refl _⟩, ⟨by (with_reducible repeat (first | apply Kd.R_alloc | apply Kd.R_drewN | apply Kd.R_drew)); exact Kd.R_mono HO_285000.out (fun _ hk => by first | exact ⟨hk.1, hk.2.1⟩ | grind)⟩, ⟨by (with_reducible repeat (first | apply Kd.R_alloc | apply Kd.R_drewN | apply Kd.R_drew)); exact Kd.R_mono HO_289000.out (fun _ hk => by first | exact ⟨hk.1.1, hk.1.2⟩ | grind)⟩, ⟨by (with_reducible repeat (first | apply Kd.R_alloc | apply Kd.R_drewN | apply Kd.R_drew)); exact Kd.R_mono HO_294000.out (fun _ hk => by first | exact ⟨hk.1, hk.2.1⟩ | grind)⟩, ⟨bk_ BK275⟩, ⟨bk_ BK284⟩, ⟨bk_ BK288⟩, ⟨bk_ BK293⟩, ⟨bf_ HB⟩⟩
      case rest =>
       clear HC61; (try clear c1); (try clear c2); (try clear p2 p2); (try clear c3); (try clear c4); (try clear c4b0); (try clear c5); (try clear c6); (try clear c7); (try clear c8); (try clear c15); (try clear c17); (try clear c20); (try clear c21); (try clear c22); (try clear c28); (try clear c29); (try clear c34); (try clear c35); (try clear c36); (try clear c39); (try clear c40); (try clear c41); (try clear c42); (try clear c44); (try clear c45); (try clear c48); (try clear c49); (try clear c50); (try clear c52); (try clear c53); (try clear c56); (try clear c59); (try clear c66); (try clear c67); (try clear c68); (try clear c71); (try clear c71b0); (try clear c73); (try clear c74); (try clear c75); (try clear c76); (try clear c78); (try clear c79); (try clear c82); (try clear c83); (try clear c84); (try clear c86); (try clear c87); (try clear hcz14_0 hfz14_0); (try clear hcz16_0 hfz16_0); (try clear hcz23_0 hfz23_0); (try clear hcz24_0 hfz24_0); (try clear hcz30_0 hfz30_0); (try clear hcz37_0 hfz37_0); (try clear hcz43_0 hfz43_0); (try clear hcz46_0 hfz46_0); (try clear hcz51_0 hfz51_0); (try clear hcz54_0 hfz54_0); (try clear hcz69_0 hfz69_0); (try clear hcz6_0 hfz6_0); (try clear hcz77_0 hfz77_0); (try clear hcz80_0 hfz80_0); (try clear hcz85_0 hfz85_0); (try clear hcz88_0 hfz88_0)
       obtain ⟨kq, x65_60, rfl, HA, HJ60, HO_285000, HO_289000, HO_294000, BK275, BK284, BK288, BK293, HB⟩ := hcut
       have hl289000_60 := (Kd.R_reads' HO_289000.out).1
       rw [hl289000_60] at HO_289000
       (try simp only [hl289000_60])
       (try simp only [hl289000_60] at BK275)
       (try simp only [hl289000_60] at BK284)
       (try simp only [hl289000_60] at BK288)
       (try simp only [hl289000_60] at BK293)
       (try simp only [hl289000_60] at HO_285000)
       (try simp only [hl289000_60] at HO_294000)
       cases kq with
       | zero => exact absurd HA.out (by simp [laws_FnExactHeapDrop.j1])
       | succ kj60 =>
        have H := HA.out
        clear HA
        simp only [laws_FnExactHeapDrop.j1] at H
        by_cases c90 : x65_60 = true
        ·subst c90
         rw [if_pos rfl] at H
         obtain rfl := Option.some.inj H
         go_wp2
         go_ret
         exact ⟨by first | rfl | (simp [errW_none, errW_some] <;> rfl) | (simp [*, errW_none, errW_some] <;> rfl), bf_ HB⟩
        ·replace c90 := Bool.eq_false_iff.mpr c90
         subst c90
         rw [if_neg (show ¬ (false = true) by decide)] at H
         replace H := Option.bind_eq_some_iff.mp H
         obtain ⟨⟨t302, t303⟩, A910, H⟩ := H
         have A91 := Aside0.mk A910
         clear A910
         replace H := Option.bind_eq_some_iff.mp H
         obtain ⟨t304, A920, H⟩ := H
         have A92 := Aside0.mk A920
         clear A920
         by_cases c93 : t304 < 0
         ·rw [if_pos c93] at H
          have c93b0 : decide (t304 < 0) = true := decide_eq_true c93
          have c93b0l := c93b0
          (try simp only [hl289000_60] at c93b0l)
          clear c93
          obtain rfl := Option.some.inj H
          have hnb94 := NB293_275.out; have hnc94 := NB275_293.out; have hnb95 := NB293_284.out; have hnc95 := NB284_293.out; have hnb96 := NB293_288.out; have hnc96 := NB288_293.out; obtain ⟨hcz97_0, hfz97_0⟩ := bz1_ BK293
          go_wp2_with (first | ((with_reducible refine gc_ 21 rfl ?_); refine gl_ 68 Try.func21 #[.agg #[.slice Ao33 t289.length co33], .int .i64 1] ?_; (with_reducible refine (laws_markHeap.calls kj60 (fun k_ => some k_ = (.slice Ao33 t289.length co33 : Value).ownBlock) (.slice Ao33 t289.length co33) t289 1 t302 t303 w _ ?side1 ?side2 A91.out).mono ?_); (case side1 => repeat (first | (with_reducible first | exact HB.out | apply below_alloc | apply pw_below_drewN | apply below_drew1 | refine below_set ?_ GE275.out | refine below_set ?_ GE284.out | refine below_set ?_ GE288.out | refine below_set ?_ GE293.out) | exact HB.out)); (case side2 => exact Kd.R_tight rfl HO_294000.out); rintro e w98 ⟨rfl, hy0, hb, hkp⟩; refine ⟨_, rfl, ?_⟩; replace HO_285000 := Aside0.mk (Kd.R_mono (ok' := fun k_ => some k_ ≠ (.slice Ao27 t300.length co27 : Value).ownBlock ∧ some k_ ≠ (.slice Ao33 t289.length co33 : Value).ownBlock) (Kd.R_keptB (HO_285000.out) hkp (fun k_ hk_ hs_ => by first | exact (hk_.2) hs_ | grind)) (fun k_ hk_ => by first | exact ⟨hk_.1.1, hk_.1.2⟩ | grind)); replace HO_289000 := Aside0.mk (Kd.R_mono (ok' := fun k_ => some k_ ≠ (.slice Ao21 t280.length co21 : Value).ownBlock ∧ some k_ ≠ (.slice Ao33 t289.length co33 : Value).ownBlock) (Kd.R_keptB (HO_289000.out) hkp (fun k_ hk_ hs_ => by first | exact (hk_.2) hs_ | grind)) (fun k_ hk_ => by first | exact ⟨hk_.1.1, hk_.1.2⟩ | grind)); replace BK275 := Aside0.mk (blk_kept (bk_ BK275) hkp (fun hs_ => (fun e_ => (Kd.R_ne HO_294000.out BK275.out (by decide)) e_) hs_)); replace BK284 := Aside0.mk (blk_kept (bk_ BK284) hkp (fun hs_ => (fun e_ => (Kd.R_ne HO_294000.out BK284.out (by decide)) e_) hs_)); replace BK288 := Aside0.mk (blk_kept (bk_ BK288) hkp (fun hs_ => (fun e_ => (Kd.R_ne HO_294000.out BK288.out (by decide)) e_) hs_)); replace BK293 := Aside0.mk (blk_kept (bk_ BK293) hkp (fun hs_ => (fun e_ => (Kd.R_ne HO_294000.out BK293.out (by decide)) e_) hs_)); replace HO_294000 := Aside0.mk (Kd.R_reok rfl hy0 (fun k_ e_ => HO_294000.out.1 k_ e_)); replace HB := Aside0.mk (hb); (try clear hb); (try clear hkp); (try clear hy0); obtain ⟨hcz99_0, hfz99_0⟩ := bz1_ BK293) | ((with_reducible refine gc_ 37 rfl ?_); refine goesL_ (some 71) rfl rfl Try.func37 (by kernel_rfl) rfl #[.agg #[.slice Ao33 t303.length co33], .int .i64 1] rfl (by (try simp only [List.map_toArray, List.map_cons, List.map_nil]); first | done | (rw [show t303.length = t289.length from (Kd.R_reads' HO_294000.out).1.symm] <;> rfl) | rfl | (simp only [List.length_drop, List.length_take]; rfl)) ?_; (with_reducible refine (laws_heldHeap.calls kj60 _ _ t303 1 t304 _ ?side1 ?side2 A92.out).mono ?_); (case side1 => exact cr_ HO_294000); (case side2 => rw [show t303.length = t289.length from (Kd.R_reads' HO_294000.out).1.symm]; exact (Kd.R_reads' HO_294000.out).2.1); rintro e w100 ⟨rfl, hb⟩; refine ⟨_, rfl, ?_⟩; replace HO_285000 := Aside0.mk (Kd.R_below (kr_ HO_285000) hb); replace HO_289000 := Aside0.mk (Kd.R_below (kr_ HO_289000) hb); replace HO_294000 := Aside0.mk (Kd.R_below (kr_ HO_294000) hb); replace BK275 := bb_ BK275 hb; replace BK284 := bb_ BK284 hb; replace BK288 := bb_ BK288 hb; replace BK293 := bb_ BK293 hb; replace HB := Aside0.mk (below_step (bf_ HB) hb); (try clear hb); (try clear hb2); (try clear hk); (try clear hi)))
          go_ret
          exact ⟨by first | rfl | (simp [errW_none, errW_some] <;> rfl) | (simp [*, errW_none, errW_some] <;> rfl), bf_ HB⟩
         ·rw [if_neg c93] at H
          have c93b0 : decide (t304 < 0) = false := decide_eq_false c93
          have c93b0l := c93b0
          (try simp only [hl289000_60] at c93b0l)
          clear c93
          by_cases c101 : t304 = t302
          ·rw [if_pos c101] at H
           have c101b0 : (t304 == t302) = true := beq_iff_eq.mpr c101
           have c101b0l := c101b0
           (try simp only [hl289000_60] at c101b0l)
           have c101b1 : (t304 != t302) = false := bne_eq_false_iff_eq.mpr c101
           have c101b1l := c101b1
           (try simp only [hl289000_60] at c101b1l)
           clear c101
           replace H := Option.bind_eq_some_iff.mp H
           obtain ⟨t305, A1020, H⟩ := H
           have A102 := Aside0.mk A1020
           clear A1020
           replace H := Option.bind_eq_some_iff.mp H
           obtain ⟨⟨t308, t311⟩, A1030, H⟩ := H
           have A103 := Aside0.mk A1030
           clear A1030
           have HC104 := Aside0.mk H
           clear H; have hnb105 := NB293_275.out; have hnc105 := NB275_293.out; have hnb106 := NB293_284.out; have hnc106 := NB284_293.out; have hnb107 := NB293_288.out; have hnc107 := NB288_293.out; obtain ⟨hcz108_0, hfz108_0⟩ := bz1_ BK293
           go_upto_region 25 with (first | ((with_reducible refine gc_ 21 rfl ?_); refine gl_ 68 Try.func21 #[.agg #[.slice Ao33 t289.length co33], .int .i64 1] ?_; (with_reducible refine (laws_markHeap.calls kj60 (fun k_ => some k_ = (.slice Ao33 t289.length co33 : Value).ownBlock) (.slice Ao33 t289.length co33) t289 1 t302 t303 w _ ?side1 ?side2 A91.out).mono ?_); (case side1 => repeat (first | (with_reducible first | exact HB.out | apply below_alloc | apply pw_below_drewN | apply below_drew1 | refine below_set ?_ GE275.out | refine below_set ?_ GE284.out | refine below_set ?_ GE288.out | refine below_set ?_ GE293.out) | exact HB.out)); (case side2 => exact Kd.R_tight rfl HO_294000.out); rintro e w109 ⟨rfl, hy0, hb, hkp⟩; refine ⟨_, rfl, ?_⟩; replace HO_285000 := Aside0.mk (Kd.R_mono (ok' := fun k_ => some k_ ≠ (.slice Ao27 t300.length co27 : Value).ownBlock ∧ some k_ ≠ (.slice Ao33 t289.length co33 : Value).ownBlock) (Kd.R_keptB (HO_285000.out) hkp (fun k_ hk_ hs_ => by first | exact (hk_.2) hs_ | grind)) (fun k_ hk_ => by first | exact ⟨hk_.1.1, hk_.1.2⟩ | grind)); replace HO_289000 := Aside0.mk (Kd.R_mono (ok' := fun k_ => some k_ ≠ (.slice Ao21 t280.length co21 : Value).ownBlock ∧ some k_ ≠ (.slice Ao33 t289.length co33 : Value).ownBlock) (Kd.R_keptB (HO_289000.out) hkp (fun k_ hk_ hs_ => by first | exact (hk_.2) hs_ | grind)) (fun k_ hk_ => by first | exact ⟨hk_.1.1, hk_.1.2⟩ | grind)); replace BK275 := Aside0.mk (blk_kept (bk_ BK275) hkp (fun hs_ => (fun e_ => (Kd.R_ne HO_294000.out BK275.out (by decide)) e_) hs_)); replace BK284 := Aside0.mk (blk_kept (bk_ BK284) hkp (fun hs_ => (fun e_ => (Kd.R_ne HO_294000.out BK284.out (by decide)) e_) hs_)); replace BK288 := Aside0.mk (blk_kept (bk_ BK288) hkp (fun hs_ => (fun e_ => (Kd.R_ne HO_294000.out BK288.out (by decide)) e_) hs_)); replace BK293 := Aside0.mk (blk_kept (bk_ BK293) hkp (fun hs_ => (fun e_ => (Kd.R_ne HO_294000.out BK293.out (by decide)) e_) hs_)); replace HO_294000 := Aside0.mk (Kd.R_reok rfl hy0 (fun k_ e_ => HO_294000.out.1 k_ e_)); replace HB := Aside0.mk (hb); (try clear hb); (try clear hkp); (try clear hy0); obtain ⟨hcz110_0, hfz110_0⟩ := bz1_ BK293) | ((with_reducible refine gc_ 37 rfl ?_); refine goesL_ (some 71) rfl rfl Try.func37 (by kernel_rfl) rfl #[.agg #[.slice Ao33 t303.length co33], .int .i64 1] rfl (by (try simp only [List.map_toArray, List.map_cons, List.map_nil]); first | done | (rw [show t303.length = t289.length from (Kd.R_reads' HO_294000.out).1.symm] <;> rfl) | rfl | (simp only [List.length_drop, List.length_take]; rfl)) ?_; (with_reducible refine (laws_heldHeap.calls kj60 _ _ t303 1 t304 _ ?side1 ?side2 A92.out).mono ?_); (case side1 => exact cr_ HO_294000); (case side2 => rw [show t303.length = t289.length from (Kd.R_reads' HO_294000.out).1.symm]; exact (Kd.R_reads' HO_294000.out).2.1); rintro e w111 ⟨rfl, hb⟩; refine ⟨_, rfl, ?_⟩; replace HO_285000 := Aside0.mk (Kd.R_below (kr_ HO_285000) hb); replace HO_289000 := Aside0.mk (Kd.R_below (kr_ HO_289000) hb); replace HO_294000 := Aside0.mk (Kd.R_below (kr_ HO_294000) hb); replace BK275 := bb_ BK275 hb; replace BK284 := bb_ BK284 hb; replace BK288 := bb_ BK288 hb; replace BK293 := bb_ BK293 hb; replace HB := Aside0.mk (below_step (bf_ HB) hb); (try clear hb); (try clear hb2); (try clear hk); (try clear hi); have hnb112 := NB275_284.out; have hnc112 := NB284_275.out; have hnb113 := NB275_288.out; have hnc113 := NB288_275.out; obtain ⟨hcz114_0, hfz114_0⟩ := bz1_ BK275) | ((with_reducible refine gc_ 17 rfl ?_); refine gl_ 79 Try.func17 #[.agg #[.slice A0_0 l0_0.length c0_0]] ?_; (with_reducible refine (laws_toHeap.calls kj60 _ _ l0_0 t305 _ ?side1 ?side2 A102.out).mono ?_); (case side1 => repeat (first | exact (Kd.C_below HR0_0.out HB.out) | (with_reducible refine Kd.C_alloc ?_ _) | (with_reducible refine Kd.C_drewN ?_ _) | (with_reducible refine Kd.C_drew ?_))); (case side2 => exact HC0_0.out); rintro e w115 ⟨v306, rfl, ho0, hb⟩; refine ⟨_, rfl, ?_⟩; have HO307 := Aside0.mk (Kd.R_lower (Kd.R_new' (Kd.R_new' (Kd.R_new' ho0 (Kd.R_lt (kr_ HO_285000))) (Kd.R_lt (kr_ HO_289000))) (Kd.R_lt (kr_ HO_294000))) (below_size (bf_ HB))); replace HO_285000 := Aside0.mk (Kd.R_elder' (kr_ HO_285000) (Kd.R_base ho0) hb); replace HO_289000 := Aside0.mk (Kd.R_elder' (kr_ HO_289000) (Kd.R_base ho0) hb); replace HO_294000 := Aside0.mk (Kd.R_elder' (kr_ HO_294000) (Kd.R_base ho0) hb); replace BK275 := bb_ BK275 hb; replace BK284 := bb_ BK284 hb; replace BK288 := bb_ BK288 hb; replace BK293 := bb_ BK293 hb; replace HB := Aside0.mk (below_step (bf_ HB) hb); (try clear hb); (try clear hb2); (try clear hk); (try clear hi); (try clear ho0); obtain ⟨Ao116, co116, eo116⟩ := Kd.R_slice HO307.out; subst eo116) | ((with_reducible refine gc_ 36 rfl ?_); refine gl_ 81 Try.func36 #[.agg #[.slice Ao116 t305.length co116], .int .i64 a1] ?_; (with_reducible refine (impl_HeapDrop.calls kj60 _ _ t305 a1 t308 t311 _ ?side1 ?side2 A103.out).mono ?_); (case side1 => exact cr_ HO307); (case side2 => exact (Kd.R_reads' HO307.out).2.1); rintro e w117 ⟨v309, rfl, ho0, hb⟩; refine ⟨_, rfl, ?_⟩; have HO310 := Aside0.mk (Kd.R_lower (Kd.R_new' (Kd.R_new' (Kd.R_new' (Kd.R_new' ho0 (Kd.R_lt (kr_ HO_285000))) (Kd.R_lt (kr_ HO_289000))) (Kd.R_lt (kr_ HO_294000))) (Kd.R_lt (kr_ HO307))) (below_size (bf_ HB))); replace HO_285000 := Aside0.mk (Kd.R_elder' (kr_ HO_285000) (Kd.R_base ho0) hb); replace HO_289000 := Aside0.mk (Kd.R_elder' (kr_ HO_289000) (Kd.R_base ho0) hb); replace HO_294000 := Aside0.mk (Kd.R_elder' (kr_ HO_294000) (Kd.R_base ho0) hb); replace HO307 := Aside0.mk (Kd.R_elder' (kr_ HO307) (Kd.R_base ho0) hb); replace BK275 := bb_ BK275 hb; replace BK284 := bb_ BK284 hb; replace BK288 := bb_ BK288 hb; replace BK293 := bb_ BK293 hb; replace HB := Aside0.mk (below_step (bf_ HB) hb); (try clear hb); (try clear hb2); (try clear hk); (try clear hi); (try clear ho0)) | ((with_reducible refine gd_ 14 rfl ?_); refine bv_ 14 #[.slice none 0 0] 29 ?_; intro gb312 hg w118 hbox hb; replace HO_285000 := Aside0.mk (Kd.R_below (kr_ HO_285000) hb); replace HO_289000 := Aside0.mk (Kd.R_below (kr_ HO_289000) hb); replace HO_294000 := Aside0.mk (Kd.R_below (kr_ HO_294000) hb); replace HO307 := Aside0.mk (Kd.R_below (kr_ HO307) hb); replace HO310 := Aside0.mk (Kd.R_below (kr_ HO310) hb); have BK312 := Aside0.mk (hbox); have GW312 := gw_ HB hg; have GE312 := gw_ HB hg; replace HB := Aside0.mk (below_step (bf_ HB) hb); have NB275_312 := nl_ BK275 hg; have NB312_275 := ng_ BK275 hg; replace BK275 := bb_ BK275 hb; have NB284_312 := nl_ BK284 hg; have NB312_284 := ng_ BK284 hg; replace BK284 := bb_ BK284 hb; have NB288_312 := nl_ BK288 hg; have NB312_288 := ng_ BK288 hg; replace BK288 := bb_ BK288 hb; have NB293_312 := nl_ BK293 hg; have NB312_293 := ng_ BK293 hg; replace BK293 := bb_ BK293 hb; clear hb hbox hg; obtain ⟨Ao119, co119, eo119⟩ := Kd.R_slice HO310.out; subst eo119; have hnb120 := NB312_275.out; have hnc120 := NB275_312.out; have hnb121 := NB312_284.out; have hnc121 := NB284_312.out; have hnb122 := NB312_288.out; have hnc122 := NB288_312.out; have hnb123 := NB312_293.out; have hnc123 := NB293_312.out; obtain ⟨hcz124_0, hfz124_0⟩ := bz1_ BK312))
           (try simp only [Act.put, ls0_, ls1_, ls2_])
           go_cut [92] (fun v92 wc => ∃ (kq : Nat) (x92_103 : Bool), v92 = .bool x92_103 ∧ Aside0 (laws_FnExactHeapDrop.j2 kq t302 x92_103 t303 = some r) ∧ Aside0 (kq ≤ kj60) ∧ Aside0 (Kd.R k68 68 wc w.heap.size (fun k_ => some k_ ≠ ((.slice Ao27 t300.length co27) : Value).ownBlock ∧ some k_ ≠ ((.slice Ao33 t289.length co33) : Value).ownBlock ∧ some k_ ≠ ((.slice Ao119 t308.length co119) : Value).ownBlock) (.slice Ao21 t280.length co21) t280) ∧ Aside0 (Kd.R k68 68 wc w.heap.size (fun k_ => some k_ ≠ ((.slice Ao21 t280.length co21) : Value).ownBlock ∧ some k_ ≠ ((.slice Ao33 t289.length co33) : Value).ownBlock ∧ some k_ ≠ ((.slice Ao119 t308.length co119) : Value).ownBlock) (.slice Ao27 t300.length co27) t300) ∧ Aside0 (Kd.R k68 68 wc w.heap.size (fun k_ => some k_ ≠ ((.slice Ao21 t280.length co21) : Value).ownBlock ∧ some k_ ≠ ((.slice Ao27 t300.length co27) : Value).ownBlock ∧ some k_ ≠ ((.slice Ao119 t308.length co119) : Value).ownBlock) (.slice Ao33 t289.length co33) t303) ∧ Aside0 (Kd.R k68 68 wc w.heap.size (fun k_ => some k_ ≠ ((.slice Ao21 t280.length co21) : Value).ownBlock ∧ some k_ ≠ ((.slice Ao27 t300.length co27) : Value).ownBlock ∧ some k_ ≠ ((.slice Ao33 t289.length co33) : Value).ownBlock) (.slice Ao119 t308.length co119) t308) ∧ Aside0 (wc.heap[gb275]? = some (.cells #[(.slice A0_0 l0_0.length c0_0)] 24 (0, 0))) ∧ Aside0 (wc.heap[gb284]? = some (.cells #[(.slice Ao21 t280.length co21)] 29 (0, 0))) ∧ Aside0 (wc.heap[gb288]? = some (.cells #[(.slice Ao27 t300.length co27)] 29 (0, 0))) ∧ Aside0 (wc.heap[gb293]? = some (.cells #[(.slice Ao33 t289.length co33)] 29 (0, 0))) ∧ Aside0 (wc.heap[gb312]? = some (.cells #[(.slice Ao119 t308.length co119)] 29 (0, 0))) ∧ Aside0 (Below w.heap.size w wc))
           case first =>
            have H := HC104.out
            clear HC104
            replace H := Option.bind_eq_some_iff.mp H
            obtain ⟨t313, A1250, H⟩ := H
            have A125 := Aside0.mk A1250
            clear A1250
            by_cases c126 : t313 = true
            ·subst c126
             rw [if_pos rfl] at H
             have H' := Aside0.mk H
             clear H; have hnb127 := NB312_275.out; have hnc127 := NB275_312.out; have hnb128 := NB312_284.out; have hnc128 := NB284_312.out; have hnb129 := NB312_288.out; have hnc129 := NB288_312.out; have hnb130 := NB312_293.out; have hnc130 := NB293_312.out; obtain ⟨hcz131_0, hfz131_0⟩ := bz1_ BK312; have hnb132 := NB284_275.out; have hnc132 := NB275_284.out; have hnb133 := NB284_288.out; have hnc133 := NB288_284.out; have hnb134 := NB284_293.out; have hnc134 := NB293_284.out; obtain ⟨hcz135_0, hfz135_0⟩ := bz1_ BK284
             go_wp2_with (first | ((with_reducible refine gc_ 20 rfl ?_); refine gl_ 86 Try.func20 #[.agg #[.slice Ao119 t308.length co119], .agg #[.slice Ao21 t280.length co21]] ?_; (with_reducible refine (laws_eqHeap.calls kj60 _ _ t308 _ _ t280 true _ ?side1 ?side2 ?side3 ?side4 A125.out).mono ?_); (case side1 => refine (Kd.R_reads' (e := 68) (base := w.heap.size) (ok := fun k_ => ((((True ∧ some k_ ≠ (.slice Ao21 t280.length co21 : Value).ownBlock) ∧ some k_ ≠ (.slice Ao27 t300.length co27 : Value).ownBlock) ∧ some k_ ≠ (.slice Ao33 t289.length co33 : Value).ownBlock) ∧ some k_ ≠ (.slice Ao116 t305.length co116 : Value).ownBlock)) (n := t308.length) (c := co119) ?_).2.2; exact (by (with_reducible repeat (first | apply Kd.R_alloc | apply Kd.R_drewN | apply Kd.R_drew)); exact (rf1_ HO310 BK312 (.slice Ao119 t308.length co119)))); (case side2 => exact (Kd.R_reads' HO310.out).2.1); (case side3 => refine (Kd.R_reads' (e := 68) (base := w.heap.size) (ok := fun k_ => (((some k_ ≠ (.slice Ao27 t300.length co27 : Value).ownBlock ∧ some k_ ≠ (.slice Ao33 t289.length co33 : Value).ownBlock) ∧ some k_ ≠ (.slice Ao116 t305.length co116 : Value).ownBlock) ∧ some k_ ≠ (.slice Ao119 t308.length co119 : Value).ownBlock)) (n := t280.length) (c := co21) ?_).2.2; exact (by (with_reducible repeat (first | apply Kd.R_alloc | apply Kd.R_drewN | apply Kd.R_drew)); exact (rf1_ HO_285000 BK312 (.slice Ao119 t308.length co119)))); (case side4 => exact (Kd.R_reads' HO_285000.out).2.1); rintro e w136 ⟨rfl, hb⟩; refine ⟨_, rfl, ?_⟩; replace HO_285000 := Aside0.mk (Kd.R_below (by (with_reducible repeat (first | apply Kd.R_alloc | apply Kd.R_drewN | apply Kd.R_drew)); exact (rf1_ HO_285000 BK312 (.slice Ao119 t308.length co119))) hb); replace HO_289000 := Aside0.mk (Kd.R_below (by (with_reducible repeat (first | apply Kd.R_alloc | apply Kd.R_drewN | apply Kd.R_drew)); exact (rf1_ HO_289000 BK312 (.slice Ao119 t308.length co119))) hb); replace HO_294000 := Aside0.mk (Kd.R_below (by (with_reducible repeat (first | apply Kd.R_alloc | apply Kd.R_drewN | apply Kd.R_drew)); exact (rf1_ HO_294000 BK312 (.slice Ao119 t308.length co119))) hb); replace HO307 := Aside0.mk (Kd.R_below (by (with_reducible repeat (first | apply Kd.R_alloc | apply Kd.R_drewN | apply Kd.R_drew)); exact (rf1_ HO307 BK312 (.slice Ao119 t308.length co119))) hb); replace HO310 := Aside0.mk (Kd.R_below (by (with_reducible repeat (first | apply Kd.R_alloc | apply Kd.R_drewN | apply Kd.R_drew)); exact (rf1_ HO310 BK312 (.slice Ao119 t308.length co119))) hb); replace BK275 := bm_ BK275 hb; replace BK284 := bm_ BK284 hb; replace BK288 := bm_ BK288 hb; replace BK293 := bm_ BK293 hb; replace BK312 := Aside0.mk (blk_below (g := gb312) (o := .cells #[.slice Ao119 t308.length co119] 29 (0, 0)) (by (with_reducible repeat (first | refine blk_drewN ?_ _ | refine blk_drew ?_ | refine blk_alloc ?_ _)); refine blk_put (cs := #[.slice none 0 0]) ?_ 0 _ rfl; exact bk_ BK312) hb); replace HB := Aside0.mk (below_step (bf_ HB) hb); (try clear hb); (try clear hb2); (try clear hk); (try clear hi)))
             go_meet
             case rel => exact ⟨_, ((t311 != t283)), (by first | rfl | (simp; done) | (simp [*]; done)), H', ⟨by have := HJ11.out; have := HJ60.out; first | omega | exact Nat.le_refl _⟩, ⟨by (try simp only [hl289000_60]); (with_reducible repeat (first | apply Kd.R_alloc | apply Kd.R_drewN | apply Kd.R_drew)); exact Kd.R_mono HO_285000.out (fun _ hk => by first | exact ⟨hk.1.1.1, ⟨hk.1.1.2, hk.2⟩⟩ | grind)⟩, ⟨by (try simp only [hl289000_60]); (with_reducible repeat (first | apply Kd.R_alloc | apply Kd.R_drewN | apply Kd.R_drew)); exact Kd.R_mono HO_289000.out (fun _ hk => by first | exact ⟨hk.1.1.1, ⟨hk.1.1.2, hk.2⟩⟩ | grind)⟩, ⟨by (try simp only [hl289000_60]); (with_reducible repeat (first | apply Kd.R_alloc | apply Kd.R_drewN | apply Kd.R_drew)); exact Kd.R_mono HO_294000.out (fun _ hk => by first | exact ⟨hk.1.1.1, ⟨hk.1.1.2, hk.2⟩⟩ | grind)⟩, ⟨by (try simp only [hl289000_60]); (with_reducible repeat (first | apply Kd.R_alloc | apply Kd.R_drewN | apply Kd.R_drew)); exact Kd.R_mono HO310.out (fun _ hk => by first | exact ⟨hk.1.1.1.2, ⟨hk.1.1.2, hk.1.2⟩⟩ | grind)⟩, ⟨by (try simp only [hl289000_60]); exact bk_ BK275⟩, ⟨by (try simp only [hl289000_60]); exact bk_ BK284⟩, ⟨by (try simp only [hl289000_60]); exact bk_ BK288⟩, ⟨by (try simp only [hl289000_60]); exact bk_ BK293⟩, ⟨by (try simp only [hl289000_60]); exact bk_ BK312⟩, ⟨bf_ HB⟩⟩
            ·replace c126 := Bool.eq_false_iff.mpr c126
             subst c126
             rw [if_neg (show ¬ (false = true) by decide)] at H
             have H' := Aside0.mk H
             clear H; have hnb137 := NB312_275.out; have hnc137 := NB275_312.out; have hnb138 := NB312_284.out; have hnc138 := NB284_312.out; have hnb139 := NB312_288.out; have hnc139 := NB288_312.out; have hnb140 := NB312_293.out; have hnc140 := NB293_312.out; obtain ⟨hcz141_0, hfz141_0⟩ := bz1_ BK312; have hnb142 := NB284_275.out; have hnc142 := NB275_284.out; have hnb143 := NB284_288.out; have hnc143 := NB288_284.out; have hnb144 := NB284_293.out; have hnc144 := NB293_284.out; obtain ⟨hcz145_0, hfz145_0⟩ := bz1_ BK284
             go_wp2_with (first | ((with_reducible refine gc_ 20 rfl ?_); refine gl_ 86 Try.func20 #[.agg #[.slice Ao119 t308.length co119], .agg #[.slice Ao21 t280.length co21]] ?_; (with_reducible refine (laws_eqHeap.calls kj60 _ _ t308 _ _ t280 false _ ?side1 ?side2 ?side3 ?side4 A125.out).mono ?_); (case side1 => refine (Kd.R_reads' (e := 68) (base := w.heap.size) (ok := fun k_ => ((((True ∧ some k_ ≠ (.slice Ao21 t280.length co21 : Value).ownBlock) ∧ some k_ ≠ (.slice Ao27 t300.length co27 : Value).ownBlock) ∧ some k_ ≠ (.slice Ao33 t289.length co33 : Value).ownBlock) ∧ some k_ ≠ (.slice Ao116 t305.length co116 : Value).ownBlock)) (n := t308.length) (c := co119) ?_).2.2; exact (by (with_reducible repeat (first | apply Kd.R_alloc | apply Kd.R_drewN | apply Kd.R_drew)); exact (rf1_ HO310 BK312 (.slice Ao119 t308.length co119)))); (case side2 => exact (Kd.R_reads' HO310.out).2.1); (case side3 => refine (Kd.R_reads' (e := 68) (base := w.heap.size) (ok := fun k_ => (((some k_ ≠ (.slice Ao27 t300.length co27 : Value).ownBlock ∧ some k_ ≠ (.slice Ao33 t289.length co33 : Value).ownBlock) ∧ some k_ ≠ (.slice Ao116 t305.length co116 : Value).ownBlock) ∧ some k_ ≠ (.slice Ao119 t308.length co119 : Value).ownBlock)) (n := t280.length) (c := co21) ?_).2.2; exact (by (with_reducible repeat (first | apply Kd.R_alloc | apply Kd.R_drewN | apply Kd.R_drew)); exact (rf1_ HO_285000 BK312 (.slice Ao119 t308.length co119)))); (case side4 => exact (Kd.R_reads' HO_285000.out).2.1); rintro e w146 ⟨rfl, hb⟩; refine ⟨_, rfl, ?_⟩; replace HO_285000 := Aside0.mk (Kd.R_below (by (with_reducible repeat (first | apply Kd.R_alloc | apply Kd.R_drewN | apply Kd.R_drew)); exact (rf1_ HO_285000 BK312 (.slice Ao119 t308.length co119))) hb); replace HO_289000 := Aside0.mk (Kd.R_below (by (with_reducible repeat (first | apply Kd.R_alloc | apply Kd.R_drewN | apply Kd.R_drew)); exact (rf1_ HO_289000 BK312 (.slice Ao119 t308.length co119))) hb); replace HO_294000 := Aside0.mk (Kd.R_below (by (with_reducible repeat (first | apply Kd.R_alloc | apply Kd.R_drewN | apply Kd.R_drew)); exact (rf1_ HO_294000 BK312 (.slice Ao119 t308.length co119))) hb); replace HO307 := Aside0.mk (Kd.R_below (by (with_reducible repeat (first | apply Kd.R_alloc | apply Kd.R_drewN | apply Kd.R_drew)); exact (rf1_ HO307 BK312 (.slice Ao119 t308.length co119))) hb); replace HO310 := Aside0.mk (Kd.R_below (by (with_reducible repeat (first | apply Kd.R_alloc | apply Kd.R_drewN | apply Kd.R_drew)); exact (rf1_ HO310 BK312 (.slice Ao119 t308.length co119))) hb); replace BK275 := bm_ BK275 hb; replace BK284 := bm_ BK284 hb; replace BK288 := bm_ BK288 hb; replace BK293 := bm_ BK293 hb; replace BK312 := Aside0.mk (blk_below (g := gb312) (o := .cells #[.slice Ao119 t308.length co119] 29 (0, 0)) (by (with_reducible repeat (first | refine blk_drewN ?_ _ | refine blk_drew ?_ | refine blk_alloc ?_ _)); refine blk_put (cs := #[.slice none 0 0]) ?_ 0 _ rfl; exact bk_ BK312) hb); replace HB := Aside0.mk (below_step (bf_ HB) hb); (try clear hb); (try clear hb2); (try clear hk); (try clear hi)))
             go_meet
             case rel => exact ⟨_, (true), (by first | rfl | (simp; done) | (simp [*]; done)), H', ⟨by have := HJ11.out; have := HJ60.out; first | omega | exact Nat.le_refl _⟩, ⟨by (try simp only [hl289000_60]); (with_reducible repeat (first | apply Kd.R_alloc | apply Kd.R_drewN | apply Kd.R_drew)); exact Kd.R_mono HO_285000.out (fun _ hk => by first | exact ⟨hk.1.1.1, ⟨hk.1.1.2, hk.2⟩⟩ | grind)⟩, ⟨by (try simp only [hl289000_60]); (with_reducible repeat (first | apply Kd.R_alloc | apply Kd.R_drewN | apply Kd.R_drew)); exact Kd.R_mono HO_289000.out (fun _ hk => by first | exact ⟨hk.1.1.1, ⟨hk.1.1.2, hk.2⟩⟩ | grind)⟩, ⟨by (try simp only [hl289000_60]); (with_reducible repeat (first | apply Kd.R_alloc | apply Kd.R_drewN | apply Kd.R_drew)); exact Kd.R_mono HO_294000.out (fun _ hk => by first | exact ⟨hk.1.1.1, ⟨hk.1.1.2, hk.2⟩⟩ | grind)⟩, ⟨by (try simp only [hl289000_60]); (with_reducible repeat (first | apply Kd.R_alloc | apply Kd.R_drewN | apply Kd.R_drew)); exact Kd.R_mono HO310.out (fun _ hk => by first | exact ⟨hk.1.1.1.2, ⟨hk.1.1.2, hk.1.2⟩⟩ | grind)⟩, ⟨by (try simp only [hl289000_60]); exact bk_ BK275⟩, ⟨by (try simp only [hl289000_60]); exact bk_ BK284⟩, ⟨by (try simp only [hl289000_60]); exact bk_ BK288⟩, ⟨by (try simp only [hl289000_60]); exact bk_ BK293⟩, ⟨by (try simp only [hl289000_60]); exact bk_ BK312⟩, ⟨bf_ HB⟩⟩
           case rest =>
            clear HC104; (try clear c1); (try clear c2); (try clear p2 p2); (try clear c3); (try clear c4); (try clear c4b0); (try clear c5); (try clear c6); (try clear c7); (try clear c8); (try clear c9); (try clear c10); (try clear c11); (try clear c12); (try clear c13); (try clear c14); (try clear c15); (try clear c17); (try clear c20); (try clear c21); (try clear c22); (try clear c28); (try clear c29); (try clear c34); (try clear c35); (try clear c36); (try clear c37); (try clear c39); (try clear c40); (try clear c41); (try clear c42); (try clear c44); (try clear c45); (try clear c48); (try clear c49); (try clear c50); (try clear c52); (try clear c53); (try clear c56); (try clear c59); (try clear c66); (try clear c67); (try clear c68); (try clear c71); (try clear c71b0); (try clear c73); (try clear c74); (try clear c75); (try clear c76); (try clear c78); (try clear c79); (try clear c82); (try clear c83); (try clear c84); (try clear c86); (try clear c87); (try clear c90); (try clear c93); (try clear c93b0); (try clear c94); (try clear c95); (try clear c96); (try clear c101); (try clear c101b0); (try clear c101b1); (try clear c105); (try clear c106); (try clear c107); (try clear c112); (try clear c113); (try clear c120); (try clear c121); (try clear c122); (try clear c123); (try clear c126); (try clear c127); (try clear c128); (try clear c129); (try clear c130); (try clear c132); (try clear c133); (try clear c134); (try clear c137); (try clear c138); (try clear c139); (try clear c140); (try clear c142); (try clear c143); (try clear c144); (try clear hcz108_0 hfz108_0); (try clear hcz110_0 hfz110_0); (try clear hcz114_0 hfz114_0); (try clear hcz124_0 hfz124_0); (try clear hcz131_0 hfz131_0); (try clear hcz135_0 hfz135_0); (try clear hcz141_0 hfz141_0); (try clear hcz145_0 hfz145_0); (try clear hcz14_0 hfz14_0); (try clear hcz16_0 hfz16_0); (try clear hcz23_0 hfz23_0); (try clear hcz24_0 hfz24_0); (try clear hcz30_0 hfz30_0); (try clear hcz37_0 hfz37_0); (try clear hcz43_0 hfz43_0); (try clear hcz46_0 hfz46_0); (try clear hcz51_0 hfz51_0); (try clear hcz54_0 hfz54_0); (try clear hcz69_0 hfz69_0); (try clear hcz6_0 hfz6_0); (try clear hcz77_0 hfz77_0); (try clear hcz80_0 hfz80_0); (try clear hcz85_0 hfz85_0); (try clear hcz88_0 hfz88_0); (try clear hcz97_0 hfz97_0); (try clear hcz99_0 hfz99_0)
            obtain ⟨kq, x92_103, rfl, HA, HJ103, HO_285000, HO_289000, HO_294000, HO_313000, BK275, BK284, BK288, BK293, BK312, HB⟩ := hcut
            have hl294000_103 := (Kd.R_reads' HO_294000.out).1
            rw [hl294000_103] at HO_294000
            (try simp only [hl294000_103])
            (try simp only [hl294000_103] at BK275)
            (try simp only [hl294000_103] at BK284)
            (try simp only [hl294000_103] at BK288)
            (try simp only [hl294000_103] at BK293)
            (try simp only [hl294000_103] at BK312)
            (try simp only [hl294000_103] at HO_285000)
            (try simp only [hl294000_103] at HO_289000)
            (try simp only [hl294000_103] at HO_313000)
            cases kq with
            | zero => exact absurd HA.out (by simp [laws_FnExactHeapDrop.j2])
            | succ kj103 =>
             have H := HA.out
             clear HA
             simp only [laws_FnExactHeapDrop.j2] at H
             by_cases c147 : x92_103 = true
             ·subst c147
              rw [if_pos rfl] at H
              obtain rfl := Option.some.inj H
              go_wp2
              go_ret
              exact ⟨by first | rfl | (simp [errW_none, errW_some] <;> rfl) | (simp [*, errW_none, errW_some] <;> rfl), bf_ HB⟩
             ·replace c147 := Bool.eq_false_iff.mpr c147
              subst c147
              rw [if_neg (show ¬ (false = true) by decide)] at H
              replace H := Option.bind_eq_some_iff.mp H
              obtain ⟨t314, A1480, H⟩ := H
              have A148 := Aside0.mk A1480
              clear A1480
              by_cases c149 : t314 < 0
              ·rw [if_pos c149] at H
               have c149b0 : decide (t314 < 0) = true := decide_eq_true c149
               have c149b0l := c149b0
               (try simp only [hl289000_60, hl294000_103] at c149b0l)
               clear c149
               obtain rfl := Option.some.inj H
               have hnb150 := NB293_275.out; have hnc150 := NB275_293.out; have hnb151 := NB293_284.out; have hnc151 := NB284_293.out; have hnb152 := NB293_288.out; have hnc152 := NB288_293.out; have hnb153 := NB293_312.out; have hnc153 := NB312_293.out; obtain ⟨hcz154_0, hfz154_0⟩ := bz1_ BK293
               go_wp2_with (first | ((with_reducible refine gc_ 37 rfl ?_); refine gl_ 95 Try.func37 #[.agg #[.slice Ao33 t303.length co33], .int .i64 1] ?_; (with_reducible refine (laws_heldHeap.calls kj103 _ _ t303 1 t314 _ ?side1 ?side2 A148.out).mono ?_); (case side1 => exact cr_ HO_294000); (case side2 => exact (Kd.R_reads' HO_294000.out).2.1); rintro e w155 ⟨rfl, hb⟩; refine ⟨_, rfl, ?_⟩; replace HO_285000 := Aside0.mk (Kd.R_below (kr_ HO_285000) hb); replace HO_289000 := Aside0.mk (Kd.R_below (kr_ HO_289000) hb); replace HO_294000 := Aside0.mk (Kd.R_below (kr_ HO_294000) hb); replace HO_313000 := Aside0.mk (Kd.R_below (kr_ HO_313000) hb); replace BK275 := bb_ BK275 hb; replace BK284 := bb_ BK284 hb; replace BK288 := bb_ BK288 hb; replace BK293 := bb_ BK293 hb; replace BK312 := bb_ BK312 hb; replace HB := Aside0.mk (below_step (bf_ HB) hb); (try clear hb); (try clear hb2); (try clear hk); (try clear hi)))
               go_ret
               exact ⟨by first | rfl | (simp [errW_none, errW_some] <;> rfl) | (simp [*, errW_none, errW_some] <;> rfl), bf_ HB⟩
              ·rw [if_neg c149] at H
               have c149b0 : decide (t314 < 0) = false := decide_eq_false c149
               have c149b0l := c149b0
               (try simp only [hl289000_60, hl294000_103] at c149b0l)
               clear c149
               by_cases c156 : t314 = t302
               ·rw [if_pos c156] at H
                have c156b0 : (t314 == t302) = true := beq_iff_eq.mpr c156
                have c156b0l := c156b0
                (try simp only [hl289000_60, hl294000_103] at c156b0l)
                have c156b1 : (t314 != t302) = false := bne_eq_false_iff_eq.mpr c156
                have c156b1l := c156b1
                (try simp only [hl289000_60, hl294000_103] at c156b1l)
                clear c156
                obtain rfl := Option.some.inj H
                have hnb157 := NB293_275.out; have hnc157 := NB275_293.out; have hnb158 := NB293_284.out; have hnc158 := NB284_293.out; have hnb159 := NB293_288.out; have hnc159 := NB288_293.out; have hnb160 := NB293_312.out; have hnc160 := NB312_293.out; obtain ⟨hcz161_0, hfz161_0⟩ := bz1_ BK293
                go_wp2_with (first | ((with_reducible refine gc_ 37 rfl ?_); refine gl_ 95 Try.func37 #[.agg #[.slice Ao33 t303.length co33], .int .i64 1] ?_; (with_reducible refine (laws_heldHeap.calls kj103 _ _ t303 1 t314 _ ?side1 ?side2 A148.out).mono ?_); (case side1 => exact cr_ HO_294000); (case side2 => exact (Kd.R_reads' HO_294000.out).2.1); rintro e w162 ⟨rfl, hb⟩; refine ⟨_, rfl, ?_⟩; replace HO_285000 := Aside0.mk (Kd.R_below (kr_ HO_285000) hb); replace HO_289000 := Aside0.mk (Kd.R_below (kr_ HO_289000) hb); replace HO_294000 := Aside0.mk (Kd.R_below (kr_ HO_294000) hb); replace HO_313000 := Aside0.mk (Kd.R_below (kr_ HO_313000) hb); replace BK275 := bb_ BK275 hb; replace BK284 := bb_ BK284 hb; replace BK288 := bb_ BK288 hb; replace BK293 := bb_ BK293 hb; replace BK312 := bb_ BK312 hb; replace HB := Aside0.mk (below_step (bf_ HB) hb); (try clear hb); (try clear hb2); (try clear hk); (try clear hi)))
                go_ret
                exact ⟨by first | rfl | (simp [errW_none, errW_some] <;> rfl) | (simp [*, errW_none, errW_some] <;> rfl), bf_ HB⟩
               ·rw [if_neg c156] at H
                have c156b0 : (t314 == t302) = false := beq_eq_false_iff_ne.mpr c156
                have c156b0l := c156b0
                (try simp only [hl289000_60, hl294000_103] at c156b0l)
                have c156b1 : (t314 != t302) = true := bne_iff_ne.mpr c156
                have c156b1l := c156b1
                (try simp only [hl289000_60, hl294000_103] at c156b1l)
                obtain rfl := Option.some.inj H
                have hnb163 := NB293_275.out; have hnc163 := NB275_293.out; have hnb164 := NB293_284.out; have hnc164 := NB284_293.out; have hnb165 := NB293_288.out; have hnc165 := NB288_293.out; have hnb166 := NB293_312.out; have hnc166 := NB312_293.out; obtain ⟨hcz167_0, hfz167_0⟩ := bz1_ BK293
                go_wp2_with (first | ((with_reducible refine gc_ 37 rfl ?_); refine gl_ 95 Try.func37 #[.agg #[.slice Ao33 t303.length co33], .int .i64 1] ?_; (with_reducible refine (laws_heldHeap.calls kj103 _ _ t303 1 t314 _ ?side1 ?side2 A148.out).mono ?_); (case side1 => exact cr_ HO_294000); (case side2 => exact (Kd.R_reads' HO_294000.out).2.1); rintro e w168 ⟨rfl, hb⟩; refine ⟨_, rfl, ?_⟩; replace HO_285000 := Aside0.mk (Kd.R_below (kr_ HO_285000) hb); replace HO_289000 := Aside0.mk (Kd.R_below (kr_ HO_289000) hb); replace HO_294000 := Aside0.mk (Kd.R_below (kr_ HO_294000) hb); replace HO_313000 := Aside0.mk (Kd.R_below (kr_ HO_313000) hb); replace BK275 := bb_ BK275 hb; replace BK284 := bb_ BK284 hb; replace BK288 := bb_ BK288 hb; replace BK293 := bb_ BK293 hb; replace BK312 := bb_ BK312 hb; replace HB := Aside0.mk (below_step (bf_ HB) hb); (try clear hb); (try clear hb2); (try clear hk); (try clear hi)))
                go_ret
                exact ⟨by first | rfl | (simp [errW_none, errW_some] <;> rfl) | (simp [*, errW_none, errW_some] <;> rfl), bf_ HB⟩
          ·rw [if_neg c101] at H
           have c101b0 : (t304 == t302) = false := beq_eq_false_iff_ne.mpr c101
           have c101b0l := c101b0
           (try simp only [hl289000_60] at c101b0l)
           have c101b1 : (t304 != t302) = true := bne_iff_ne.mpr c101
           have c101b1l := c101b1
           (try simp only [hl289000_60] at c101b1l)
           obtain rfl := Option.some.inj H
           have hnb169 := NB293_275.out; have hnc169 := NB275_293.out; have hnb170 := NB293_284.out; have hnc170 := NB284_293.out; have hnb171 := NB293_288.out; have hnc171 := NB288_293.out; obtain ⟨hcz172_0, hfz172_0⟩ := bz1_ BK293
           go_wp2_with (first | ((with_reducible refine gc_ 21 rfl ?_); refine gl_ 68 Try.func21 #[.agg #[.slice Ao33 t289.length co33], .int .i64 1] ?_; (with_reducible refine (laws_markHeap.calls kj60 (fun k_ => some k_ = (.slice Ao33 t289.length co33 : Value).ownBlock) (.slice Ao33 t289.length co33) t289 1 t302 t303 w _ ?side1 ?side2 A91.out).mono ?_); (case side1 => repeat (first | (with_reducible first | exact HB.out | apply below_alloc | apply pw_below_drewN | apply below_drew1 | refine below_set ?_ GE275.out | refine below_set ?_ GE284.out | refine below_set ?_ GE288.out | refine below_set ?_ GE293.out) | exact HB.out)); (case side2 => exact Kd.R_tight rfl HO_294000.out); rintro e w173 ⟨rfl, hy0, hb, hkp⟩; refine ⟨_, rfl, ?_⟩; replace HO_285000 := Aside0.mk (Kd.R_mono (ok' := fun k_ => some k_ ≠ (.slice Ao27 t300.length co27 : Value).ownBlock ∧ some k_ ≠ (.slice Ao33 t289.length co33 : Value).ownBlock) (Kd.R_keptB (HO_285000.out) hkp (fun k_ hk_ hs_ => by first | exact (hk_.2) hs_ | grind)) (fun k_ hk_ => by first | exact ⟨hk_.1.1, hk_.1.2⟩ | grind)); replace HO_289000 := Aside0.mk (Kd.R_mono (ok' := fun k_ => some k_ ≠ (.slice Ao21 t280.length co21 : Value).ownBlock ∧ some k_ ≠ (.slice Ao33 t289.length co33 : Value).ownBlock) (Kd.R_keptB (HO_289000.out) hkp (fun k_ hk_ hs_ => by first | exact (hk_.2) hs_ | grind)) (fun k_ hk_ => by first | exact ⟨hk_.1.1, hk_.1.2⟩ | grind)); replace BK275 := Aside0.mk (blk_kept (bk_ BK275) hkp (fun hs_ => (fun e_ => (Kd.R_ne HO_294000.out BK275.out (by decide)) e_) hs_)); replace BK284 := Aside0.mk (blk_kept (bk_ BK284) hkp (fun hs_ => (fun e_ => (Kd.R_ne HO_294000.out BK284.out (by decide)) e_) hs_)); replace BK288 := Aside0.mk (blk_kept (bk_ BK288) hkp (fun hs_ => (fun e_ => (Kd.R_ne HO_294000.out BK288.out (by decide)) e_) hs_)); replace BK293 := Aside0.mk (blk_kept (bk_ BK293) hkp (fun hs_ => (fun e_ => (Kd.R_ne HO_294000.out BK293.out (by decide)) e_) hs_)); replace HO_294000 := Aside0.mk (Kd.R_reok rfl hy0 (fun k_ e_ => HO_294000.out.1 k_ e_)); replace HB := Aside0.mk (hb); (try clear hb); (try clear hkp); (try clear hy0); obtain ⟨hcz174_0, hfz174_0⟩ := bz1_ BK293) | ((with_reducible refine gc_ 37 rfl ?_); refine goesL_ (some 71) rfl rfl Try.func37 (by kernel_rfl) rfl #[.agg #[.slice Ao33 t303.length co33], .int .i64 1] rfl (by (try simp only [List.map_toArray, List.map_cons, List.map_nil]); first | done | (rw [show t303.length = t289.length from (Kd.R_reads' HO_294000.out).1.symm] <;> rfl) | rfl | (simp only [List.length_drop, List.length_take]; rfl)) ?_; (with_reducible refine (laws_heldHeap.calls kj60 _ _ t303 1 t304 _ ?side1 ?side2 A92.out).mono ?_); (case side1 => exact cr_ HO_294000); (case side2 => rw [show t303.length = t289.length from (Kd.R_reads' HO_294000.out).1.symm]; exact (Kd.R_reads' HO_294000.out).2.1); rintro e w175 ⟨rfl, hb⟩; refine ⟨_, rfl, ?_⟩; replace HO_285000 := Aside0.mk (Kd.R_below (kr_ HO_285000) hb); replace HO_289000 := Aside0.mk (Kd.R_below (kr_ HO_289000) hb); replace HO_294000 := Aside0.mk (Kd.R_below (kr_ HO_294000) hb); replace BK275 := bb_ BK275 hb; replace BK284 := bb_ BK284 hb; replace BK288 := bb_ BK288 hb; replace BK293 := bb_ BK293 hb; replace HB := Aside0.mk (below_step (bf_ HB) hb); (try clear hb); (try clear hb2); (try clear hk); (try clear hi)))
           go_ret
           exact ⟨by first | rfl | (simp [errW_none, errW_some] <;> rfl) | (simp [*, errW_none, errW_some] <;> rfl), bf_ HB⟩
     ·replace c59 := Bool.eq_false_iff.mpr c59
      subst c59
      rw [if_neg (show ¬ (false = true) by decide)] at H
      obtain rfl := Option.some.inj H
      try go_wp2
      replace HO_285000 := Aside0.mk (Kd.R_drew HO_285000.out); replace HO_289000 := Aside0.mk (Kd.R_drew HO_289000.out); replace HO_294000 := Aside0.mk (Kd.R_drew HO_294000.out); replace BK275 := Aside0.mk (blk_drew BK275.out); replace BK284 := Aside0.mk (blk_drew BK284.out); replace BK288 := Aside0.mk (blk_drew BK288.out); replace BK293 := Aside0.mk (blk_drew BK293.out); replace HB := Aside0.mk (below_drew1 HB.out)
      refine start_ (n := 5) (S := fun w' => cw_ w' gb288 0 (.slice Ao27 t285.length co27) ∧ cw_ w' gb275 0 (.slice A0_0 l0_0.length c0_0)) (ds := []) (bs 5 0) (by kernel_rfl) rfl rfl ⟨bt_ BK288 0, bt_ BK275 0⟩ (fun hHeld => ?_)
      generalize wc.drew = w176 at HO_285000 HO_289000 HO_294000 BK275 BK284 BK288 BK293 HB hHeld ⊢
      refine tk0_ 0 45 (bs 5 1) hHeld ?_
      refine tk0_ 1 46 (bs 5 2) hHeld ?_
      refine on0_ 2 (some 47) (bs 5 3) (fun K hK => ?_)
      refine gs_ Try.func17 #[.agg #[.slice A0_0 l0_0.length c0_0]] ?_
      with_reducible refine (laws_toHeap.calls kj11 _ _ l0_0 t295 _ ?side1 ?side2 A57.out).mono ?_
      (case side1 => repeat (first | exact (Kd.C_below HR0_0.out HB.out) | (with_reducible refine Kd.C_alloc ?_ _) | (with_reducible refine Kd.C_drewN ?_ _) | (with_reducible refine Kd.C_drew ?_)))
      (case side2 => exact HC0_0.out)
      rintro e w177 ⟨v296, rfl, ho0, hb⟩
      refine ⟨_, rfl, ?_⟩
      have HO297 := Aside0.mk (Kd.R_lower (Kd.R_new' (Kd.R_new' (Kd.R_new' ho0 (Kd.R_lt (kr_ HO_285000))) (Kd.R_lt (kr_ HO_289000))) (Kd.R_lt (kr_ HO_294000))) (below_size (bf_ HB))); replace HO_285000 := Aside0.mk (Kd.R_elder' (kr_ HO_285000) (Kd.R_base ho0) hb); replace HO_289000 := Aside0.mk (Kd.R_elder' (kr_ HO_289000) (Kd.R_base ho0) hb); replace HO_294000 := Aside0.mk (Kd.R_elder' (kr_ HO_294000) (Kd.R_base ho0) hb); replace BK275 := bb_ BK275 hb; replace BK284 := bb_ BK284 hb; replace BK288 := bb_ BK288 hb; replace BK293 := bb_ BK293 hb; replace HB := Aside0.mk (below_step (bf_ HB) hb); (try clear hb); (try clear hb2); (try clear hk); (try clear hi); (try clear ho0)
      obtain ⟨Ao178, co178, eo178⟩ := Kd.R_slice HO297.out
      (first | subst eo178 | (injection eo178 with f1_ f2_ f3_; have f4_ := f1_.symm; have f5_ := f3_.symm; clear f1_ f2_ f3_; subst f4_; subst f5_))
      refine hK.out _ _ ⟨bt_ BK288 0, bt_ BK275 0⟩ (fun hHeld => ?_)
      clear hK K
      refine norm_ (a' := ?_) ?_ ?_
      rotate_left
      ·show Act.put _ (some 47) _ = _
       simp only [Act.put, ls0_, ls1_, ls2_, i64_w, i32_w]
       rfl
      refine on0_ 3 (some 48) (bs 5 4) (fun K hK => ?_)
      refine gs_ Try.func20 #[.agg #[.slice Ao27 t285.length co27], .agg #[.slice Ao178 t295.length co178]] ?_
      with_reducible refine (laws_eqHeap.calls kj11 _ _ t285 _ _ t295 false _ ?side1 ?side2 ?side3 ?side4 A58.out).mono ?_
      (case side1 => exact cr_ HO_289000)
      (case side2 => exact (Kd.R_reads' HO_289000.out).2.1)
      (case side3 => exact cr_ HO297)
      (case side4 => exact (Kd.R_reads' HO297.out).2.1)
      rintro e w179 ⟨rfl, hb⟩
      refine ⟨_, rfl, ?_⟩
      replace HO_285000 := Aside0.mk (Kd.R_below (kr_ HO_285000) hb); replace HO_289000 := Aside0.mk (Kd.R_below (kr_ HO_289000) hb); replace HO_294000 := Aside0.mk (Kd.R_below (kr_ HO_294000) hb); replace HO297 := Aside0.mk (Kd.R_below (kr_ HO297) hb); replace BK275 := bb_ BK275 hb; replace BK284 := bb_ BK284 hb; replace BK288 := bb_ BK288 hb; replace BK293 := bb_ BK293 hb; replace HB := Aside0.mk (below_step (bf_ HB) hb); (try clear hb); (try clear hb2); (try clear hk); (try clear hi)
      refine hK.out _ _ ⟨bt_ BK288 0, bt_ BK275 0⟩ (fun hHeld => ?_)
      clear hK K
      refine norm_ (a' := ?_) ?_ ?_
      rotate_left
      ·show Act.put _ (some 48) _ = _
       simp only [Act.put, ls0_, ls1_, ls2_, i64_w, i32_w]
       rfl
      refine ps0_ 4 49 (bs 5 5) ?_
      refine done_ (by kernel_rfl) ?_
      try go_wp2
      go_ret
      exact ⟨by first | rfl | (simp [errW_none, errW_some] <;> rfl) | (simp [*, errW_none, errW_some] <;> rfl), bf_ HB⟩

/-! What is told of arguments that came in -/
def W126 (x : S126) : Prop := ((Lit.int .i64 x.f0).wf = true) ∧ ((Lit.int .i64 x.f1).wf = true)
def W24 (x : S24) : Prop := ((x.f0.length ≤ maxLen ∧ ∀ y_ ∈ x.f0, W126 y_))
/-- THE ONE PURE STATEMENT of laws_FnExactHeapDrop: yours. -/
def laws_FnExactHeapDrop.Pure : Prop := ∀ (l0_0 : List (S126)) (a1 : Int), W24 (⟨l0_0⟩ : S24) → (Lit.int .i64 a1).wf = true → ∃ k, laws_FnExactHeapDrop.f k l0_0 a1 = some true
theorem laws_FnExactHeapDrop.walk (P : laws_FnExactHeapDrop.Pure) (w : World) (x0 : S24) (A0_0 : Option Addr) (c0_0 : Nat) (hc0_0 : x0.f0.length ≤ c0_0) (hr0_0 : Kd.C k126 w A0_0 x0.f0.length x0.f0) (hw0 : W24 x0) (a1 : Int) (hw1 : (Lit.int .i64 a1).wf = true) :
  Calls Try.prog 5 #[.agg #[.slice A0_0 x0.f0.length c0_0], .int .i64 a1] w fun e w' => e = .returned (.bool true) ∧ Below w.heap.size w w' := by
 obtain ⟨k, h⟩ := P (x0.f0) a1 hw0 hw1
 refine (laws_FnExactHeapDrop.calls k A0_0 c0_0 x0.f0 a1 true w hr0_0 hc0_0 h).mono ?_
 rintro e w' ⟨rfl, hd⟩
 exact ⟨rfl, hd⟩

end Go.Proofs.Ytnklakficjpmoaa.PFnExactHeapDrop
