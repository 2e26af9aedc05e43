-- printed by a program of this session (wip/printx) out of the translation; Lean checks it
import Derived.Test.YtaglpjlapfocfaaXSq
import Derived.Test.YtaglpjlapfocfaaPFnExactStorePutx0
import Derived.Test.YtaglpjlapfocfaaPFnExactStorePutx2
import Derived.Test.YtaglpjlapfocfaaPFnExactStorePutx3
import Derived.Test.YtaglpjlapfocfaaPFnExactStorePutx4
namespace Go.Proofs.Ytaglpjlapfocfaa.PFnExactStorePut
open Go.RowKit Go.Proofs.YtaglpjlapfocfaaW.PrintWords Go.Proofs.YtaglpjlapfocfaaW.PrintLast Go.Proofs.YtaglpjlapfocfaaW.PrintMore
attribute [local go_sem] max2_int min2_int max_two min_two max_three min_three max_four min_four   -- for this text's walks alone
set_option linter.unusedVariables false
set_option linter.unusedSimpArgs false

/-! ### impl_StorePut: function 49 -/
def impl_StorePut.l0 : Nat → List Int → Int → List Int → Int → Int → Int → List Int → List Int → Option (Int × List Int × List Int × Int × Int)
  | 0, _, _, _, _, _, _, _, _ => none
  | k + 1, x1, x8, x41, x42, x43, x233000, x233001, x233002 => if x43 < x42 then (if 0 ≤ x43 then (if x43 < (x41.length : Int) then (if 0 ≤ (wrap64 (16 * (rd x41 x43))) then (if (wrap64 (16 * (rd x41 x43))) ≤ (wrap64 (16 * (wrap64 ((rd x41 x43) + 1)))) then (if (wrap64 (16 * (wrap64 ((rd x41 x43) + 1)))) ≤ (x233002.length : Int) then ((some ((x233002.take ((wrap64 (16 * (wrap64 ((rd x41 x43) + 1)))) : Int).toNat).drop ((wrap64 (16 * (rd x41 x43))) : Int).toNat : List Int)).bind fun y237 => (if 0 ≤ (mn (x1.length : Int) (wrap64 (16 * x43))) then (if (mn (x1.length : Int) (wrap64 (16 * x43))) ≤ (x1.length : Int) then (impl_StorePut.l0 k x1 x8 x41 x42 (wrap64 (x43 + 1)) x233000 x233001 (x233002.take ((wrap64 (16 * (rd x41 x43))) : Int).toNat ++ ((x1.drop ((mn (x1.length : Int) (wrap64 (16 * x43))) : Int).toNat).take (min (x1.drop ((mn (x1.length : Int) (wrap64 (16 * x43))) : Int).toNat).length y237.length) ++ x233002.drop (((wrap64 (16 * (rd x41 x43))) : Int).toNat + min (x1.drop ((mn (x1.length : Int) (wrap64 (16 * x43))) : Int).toNat).length y237.length)))) else (none)) else (none))) else (none)) else (none)) else (none)) else (none)) else (none)) else (some (x233000, x233001, x233002, x8, 0))
def impl_StorePut.f (k : Nat) (a0_0 : Int) (l0_1 : List Int) (l0_2 : List Int) (l1 : List Int) : Option (Int × List Int × List Int × Int × Int) := (impl_StoreOk.f k a0_0 l0_1 l0_2).bind fun t221 => (if t221 = true then ((impl_SlabTake.f k a0_0 l0_1 (mx 1 (wrap64 (Int.tdiv (wrap64 ((wrap64 ((l1.length : Int) + 16)) - 1)) 16)))).bind fun bt222 => (if bt222.2.2.2 = 0 then ((slices_Clone_byte_byte.f l0_2).bind fun t229 => ((impl_Slab_chain.f k bt222.1 bt222.2.1 bt222.2.2.1).bind fun t233 => (impl_StorePut.l0 k l1 bt222.2.2.1 t233 (t233.length : Int) 0 bt222.1 bt222.2.1 t229))) else (some (0, ([] : List Int), ([] : List Int), (-1), bt222.2.2.2)))) else (some (0, ([] : List Int), ([] : List Int), (-1), 1)))
theorem impl_StorePut.mono_l : ∀ k, (∀ y0 y1 y2 y3 y4 y5 y6 y7, LeO (impl_StorePut.l0 k y0 y1 y2 y3 y4 y5 y6 y7) (impl_StorePut.l0 (k + 1) y0 y1 y2 y3 y4 y5 y6 y7))
 | 0 => fun _ _ _ _ _ _ _ _ r h => by simp [impl_StorePut.l0] at h
 | k + 1 => by
  have ih0 := impl_StorePut.mono_l k
  ·intro y0 y1 y2 y3 y4 y5 y6 y7
   unfold impl_StorePut.l0
   repeat' first
   | (with_reducible exact ih0 _ _ _ _ _ _ _ _)
   | (with_reducible exact impl_SlabTake.mono _ _ _ _)
   | (with_reducible exact impl_Slab_chain.mono _ _ _ _)
   | (with_reducible exact impl_StoreOk.mono _ _ _ _)
   | (with_reducible exact LeO.refl _)
   | (with_reducible exact LeO.none _)
   | (with_reducible refine LeO.ite ?_ ?_)
   | (with_reducible refine LeO.bind ?_ (fun _ => ?_))
   | exact ih0 _ _ _ _ _ _ _ _
   | exact impl_SlabTake.mono _ _ _ _
   | exact impl_Slab_chain.mono _ _ _ _
   | exact impl_StoreOk.mono _ _ _ _
   | exact LeO.none _
   | refine LeO.ite ?_ ?_
   | refine LeO.bind ?_ (fun _ => ?_)
theorem impl_StorePut.mono : ∀ a0 a1 a2 a3 k, LeO (impl_StorePut.f k a0 a1 a2 a3) (impl_StorePut.f (k + 1) a0 a1 a2 a3) := by
 intro a0 a1 a2 a3 k
 have ih0 := impl_StorePut.mono_l k
 unfold impl_StorePut.f
 repeat' first
   | (with_reducible exact ih0 _ _ _ _ _ _ _ _)
   | (with_reducible exact impl_SlabTake.mono _ _ _ _)
   | (with_reducible exact impl_Slab_chain.mono _ _ _ _)
   | (with_reducible exact impl_StoreOk.mono _ _ _ _)
   | (with_reducible exact LeO.refl _)
   | (with_reducible exact LeO.none _)
   | (with_reducible refine LeO.ite ?_ ?_)
   | (with_reducible refine LeO.bind ?_ (fun _ => ?_))
   | exact ih0 _ _ _ _ _ _ _ _
   | exact impl_SlabTake.mono _ _ _ _
   | exact impl_Slab_chain.mono _ _ _ _
   | exact impl_StoreOk.mono _ _ _ _
   | exact LeO.none _
   | refine LeO.ite ?_ ?_
   | refine LeO.bind ?_ (fun _ => ?_)
def impl_StorePut.T10 : Bool × List (List Nat × List Nat) := (true, [([], []), ([0], [0]), ([], []), ([2], [2]), ([], []), ([4], [4]), ([5], [5]), ([1, 3, 6], [1, 3, 6]), ([], []), ([], []), ([9], [9]), ([], []), ([11], [11]), ([10, 12], [10, 12]), ([8, 13], [8, 13]), ([7, 14], [7, 14])])
def impl_StorePut.B10 : List Nat := [0, 1, 0, 4, 0, 16, 48, 127, 0, 0, 512, 0, 2048, 7680, 16128, 32767]
theorem impl_StorePut.tab10 : rtab .any (opsOf Try.f49 10) = impl_StorePut.T10 := by kernel_rfl
theorem impl_StorePut.bits10 : waitsOk impl_StorePut.T10.2 impl_StorePut.B10 = true := by kernel_rfl
set_option maxHeartbeats 8000000 in
set_option maxRecDepth 100000 in
theorem impl_StorePut.calls (k : Nat) (a0_0 : Int) (A0_1 : Option Addr) (c0_1 : Nat) (l0_1 : List Int) (A0_2 : Option Addr) (c0_2 : Nat) (l0_2 : List Int) (A1 : Option Addr) (c1 : Nat) (l1 : List Int) (r1 : Int) (r2 : List Int) (r3 : List Int) (r4 : Int) (r5 : Int) (w : World) (hr0_1 : Kd.C (Kd.int .i64) w A0_1 l0_1.length l0_1) (hc0_1 : l0_1.length ≤ c0_1) (hr0_2 : Kd.C (Kd.int .u8) w A0_2 l0_2.length l0_2) (hc0_2 : l0_2.length ≤ c0_2) (hr1 : Kd.C (Kd.int .u8) w A1 l1.length l1) (hc1 : l1.length ≤ c1) (h : impl_StorePut.f k a0_0 l0_1 l0_2 l1 = some (r1, r2, r3, r4, r5)) :
  Calls Try.prog 49 #[.agg #[.int .i64 a0_0, .slice A0_1 l0_1.length c0_1, .slice A0_2 l0_2.length c0_2], .slice A1 l1.length c1] w fun e w' => ∃ v1_ v2_ : Value, e = .returned (.tuple #[.agg #[.int .i64 r1, v1_, v2_], .int .i64 r4, .int .i64 r5]) ∧ Kd.R (Kd.int .i64) 3 w' w.heap.size (fun _ => True) v1_ r2 ∧ Kd.R (Kd.int .u8) 5 w' w.heap.size (fun _ => True) v2_ r3 ∧ Below w.heap.size w w' := by
 have hu36 := Try.underlying36; have hu24 := Try.underlying24
 have HR0_1 := Aside0.mk hr0_1
 have HC0_1 := Aside0.mk hc0_1
 clear hr0_1 hc0_1
 have HR0_2 := Aside0.mk hr0_2
 have HC0_2 := Aside0.mk hc0_2
 clear hr0_2 hc0_2
 have HR1 := Aside0.mk hr1
 have HC1 := Aside0.mk hc1
 clear hr1 hc1; have HB := Aside0.mk (Below.refl w.heap.size w)
 have H : ((impl_StoreOk.f k a0_0 l0_1 l0_2).bind fun t221 => (if t221 = true then ((impl_SlabTake.f k a0_0 l0_1 (mx 1 (wrap64 (Int.tdiv (wrap64 ((wrap64 ((l1.length : Int) + 16)) - 1)) 16)))).bind fun bt222 => (if bt222.2.2.2 = 0 then ((slices_Clone_byte_byte.f l0_2).bind fun t229 => ((impl_Slab_chain.f k bt222.1 bt222.2.1 bt222.2.2.1).bind fun t233 => (impl_StorePut.l0 k l1 bt222.2.2.1 t233 (t233.length : Int) 0 bt222.1 bt222.2.1 t229))) else (some (0, ([] : List Int), ([] : List Int), (-1), bt222.2.2.2)))) else (some (0, ([] : List Int), ([] : List Int), (-1), 1)))) = some (r1, r2, r3, r4, r5) := h
 clear h
 replace H := Option.bind_eq_some_iff.mp H
 obtain ⟨t221, A30, H⟩ := H
 replace H : (if t221 = true then ((impl_SlabTake.f k a0_0 l0_1 (mx 1 (wrap64 (Int.tdiv (wrap64 ((wrap64 ((l1.length : Int) + 16)) - 1)) 16)))).bind fun bt222 => (if bt222.2.2.2 = 0 then ((slices_Clone_byte_byte.f l0_2).bind fun t229 => ((impl_Slab_chain.f k bt222.1 bt222.2.1 bt222.2.2.1).bind fun t233 => (impl_StorePut.l0 k l1 bt222.2.2.1 t233 (t233.length : Int) 0 bt222.1 bt222.2.1 t229))) else (some (0, ([] : List Int), ([] : List Int), (-1), bt222.2.2.2)))) else (some (0, ([] : List Int), ([] : List Int), (-1), 1))) = some (r1, r2, r3, r4, r5) := H
 have A3 := Aside0.mk A30
 clear A30
 by_cases c4 : t221 = true
 ·subst c4
  have H1 : ((impl_SlabTake.f k a0_0 l0_1 (mx 1 (wrap64 (Int.tdiv (wrap64 ((wrap64 ((l1.length : Int) + 16)) - 1)) 16)))).bind fun bt222 => (if bt222.2.2.2 = 0 then ((slices_Clone_byte_byte.f l0_2).bind fun t229 => ((impl_Slab_chain.f k bt222.1 bt222.2.1 bt222.2.2.1).bind fun t233 => (impl_StorePut.l0 k l1 bt222.2.2.1 t233 (t233.length : Int) 0 bt222.1 bt222.2.1 t229))) else (some (0, ([] : List Int), ([] : List Int), (-1), bt222.2.2.2)))) = some (r1, r2, r3, r4, r5) := by rw [if_pos rfl] at H; exact H
  clear H
  have H := H1
  clear H1
  obtain ⟨ji5, hji5⟩ : ∃ j_ : Int, (mx 1 (wrap64 (Int.tdiv (wrap64 ((wrap64 ((l1.length : Int) + 16)) - 1)) 16))) = j_ := ⟨_, rfl⟩
  replace H : ((impl_SlabTake.f k a0_0 l0_1 (ji5)).bind fun bt222 => (if bt222.2.2.2 = 0 then ((slices_Clone_byte_byte.f l0_2).bind fun t229 => ((impl_Slab_chain.f k bt222.1 bt222.2.1 bt222.2.2.1).bind fun t233 => (impl_StorePut.l0 k l1 bt222.2.2.1 t233 (t233.length : Int) 0 bt222.1 bt222.2.1 t229))) else (some (0, ([] : List Int), ([] : List Int), (-1), bt222.2.2.2)))) = some (r1, r2, r3, r4, r5) := by first | (rw [hji5] at H; exact H) | (simp only [hji5] at H ⊢; exact H)
  (try rw [hji5] at A3)
  (try (have hji5l : 1 ≤ ji5 := by (rw [← hji5]; unfold mx; (repeat' split) <;> omega)))
  (try (have hji5m : 0 ≤ ji5 := by omega))
  have hji5_ : (if 1 < (wrap64 (Int.tdiv (wrap64 ((wrap64 ((l1.length : Int) + 16)) - 1)) 16)) then (wrap64 (Int.tdiv (wrap64 ((wrap64 ((l1.length : Int) + 16)) - 1)) 16)) else 1) = ji5 := hji5
  replace H := Option.bind_eq_some_iff.mp H
  obtain ⟨⟨t222, t223, t226, t227⟩, A60, H⟩ := H
  replace H : (if t227 = 0 then ((slices_Clone_byte_byte.f l0_2).bind fun t229 => ((impl_Slab_chain.f k t222 t223 t226).bind fun t233 => (impl_StorePut.l0 k l1 t226 t233 (t233.length : Int) 0 t222 t223 t229))) else (some (0, ([] : List Int), ([] : List Int), (-1), t227))) = some (r1, r2, r3, r4, r5) := H
  have A6 := Aside0.mk A60
  clear A60
  by_cases c7 : t227 = 0
  ·rw [if_pos c7] at H
   have c7b0 : (t227 == 0) = true := beq_iff_eq.mpr c7
   have c7b1 : (t227 != 0) = false := bne_eq_false_iff_eq.mpr c7
   clear c7
   replace H := Option.bind_eq_some_iff.mp H
   obtain ⟨t229, A80, H⟩ := H
   replace H : ((impl_Slab_chain.f k t222 t223 t226).bind fun t233 => (impl_StorePut.l0 k l1 t226 t233 (t233.length : Int) 0 t222 t223 t229)) = some (r1, r2, r3, r4, r5) := H
   have A8 := Aside0.mk A80
   clear A80
   replace H := Option.bind_eq_some_iff.mp H
   obtain ⟨t233, A90, H⟩ := H
   replace H : (impl_StorePut.l0 k l1 t226 t233 (t233.length : Int) 0 t222 t223 t229) = some (r1, r2, r3, r4, r5) := H
   have A9 := Aside0.mk A90
   clear A90
   have H' := Aside0.mk H
   clear H
   go_enter Try.func49, Try.ntmps49
   try go_wp2_with (first | ((with_reducible refine gd_ 2 rfl ?_); refine bv_ 2 #[.int .i64 a0_0, .slice A0_1 l0_1.length c0_1, .slice A0_2 l0_2.length c0_2] 36 ?_; intro gb219 hg w10 hbox hb; have BK219 := Aside0.mk (hbox); have GW219 := gw_ HB hg; have GE219 := gw_ HB hg; replace HB := Aside0.mk (below_step (be_ HB) hb); clear hb hbox hg) | ((with_reducible refine gd_ 4 rfl ?_); refine bv_ 4 #[.int .i64 0, .slice none 0 0, .slice none 0 0] 36 ?_; intro gb220 hg w11 hbox hb; have BK220 := Aside0.mk (hbox); have GW220 := gw_ HB hg; have GE220 := gw_ HB hg; replace HB := Aside0.mk (below_step (bf_ HB) hb); have NB219_220 := nl_ BK219 hg; have NB220_219 := ng_ BK219 hg; replace BK219 := bb_ BK219 hb; clear hb hbox hg; have hnb12 := NB219_220.out; have hnc12 := NB220_219.out; obtain ⟨hcz13_0, hcz13_1, hcz13_2, hfz13_0, hfz13_1, hfz13_2⟩ := bz3_ BK219) | ((with_reducible refine gc_ 41 rfl ?_); refine gl_ 14 Try.func41 #[.agg #[.int .i64 a0_0, .slice A0_1 l0_1.length c0_1, .slice A0_2 l0_2.length c0_2]] ?_; (with_reducible refine (impl_StoreOk.calls k a0_0 _ _ l0_1 _ _ l0_2 true _ ?side1 ?side2 ?side3 ?side4 A3.out).mono ?_); (case side1 => repeat (first | exact (Kd.C_below HR0_1.out HB.out) | (with_reducible refine Kd.C_alloc ?_ _) | (with_reducible refine Kd.C_drewN ?_ _) | (with_reducible refine Kd.C_drew ?_))); (case side2 => exact HC0_1.out); (case side3 => repeat (first | exact (Kd.C_below HR0_2.out HB.out) | (with_reducible refine Kd.C_alloc ?_ _) | (with_reducible refine Kd.C_drewN ?_ _) | (with_reducible refine Kd.C_drew ?_))); (case side4 => exact HC0_2.out); rintro e w14 ⟨rfl, hb⟩; refine ⟨_, rfl, ?_⟩; replace BK219 := bb_ BK219 hb; replace BK220 := bb_ BK220 hb; replace HB := Aside0.mk (below_step (bf_ HB) hb); (try clear hb); (try clear hb2); (try clear hk); (try clear hi); obtain ⟨hcz15_0, hcz15_1, hcz15_2, hfz15_0, hfz15_1, hfz15_2⟩ := bz3_ BK219) | ((with_reducible refine gc_ 45 rfl ?_); refine goesL_ (some 26) rfl rfl Try.func45 (by kernel_rfl) rfl #[.agg #[.int .i64 a0_0, .slice A0_1 l0_1.length c0_1], .int .i64 ji5] rfl (by (try simp only [List.map_toArray, List.map_cons, List.map_nil]); first | done | (simp only [hji5]; rfl) | rfl | (simp only [List.length_drop, List.length_take]; rfl)) ?_; (with_reducible refine (impl_SlabTake.calls k a0_0 _ _ l0_1 ji5 t222 t223 t226 t227 _ ?side1 ?side2 A6.out).mono ?_); (case side1 => repeat (first | exact (Kd.C_below HR0_1.out HB.out) | (with_reducible refine Kd.C_alloc ?_ _) | (with_reducible refine Kd.C_drewN ?_ _) | (with_reducible refine Kd.C_drew ?_))); (case side2 => exact HC0_1.out); rintro e w16 ⟨v224, rfl, ho0, hb⟩; refine ⟨_, rfl, ?_⟩; have HO225 := Aside0.mk (Kd.R_lower ho0 (below_size (bf_ HB))); replace BK219 := bb_ BK219 hb; replace BK220 := bb_ BK220 hb; replace HB := Aside0.mk (below_step (bf_ HB) hb); (try clear hb); (try clear hb2); (try clear hk); (try clear hi); (try clear ho0)) | ((with_reducible refine gd_ 7 rfl ?_); refine bv_ 7 #[.int .i64 0, .slice none 0 0] 24 ?_; intro gb228 hg w17 hbox hb; replace HO225 := Aside0.mk (Kd.R_below (kr_ HO225) hb); have BK228 := Aside0.mk (hbox); have GW228 := gw_ HB hg; have GE228 := gw_ HB hg; replace HB := Aside0.mk (below_step (bf_ HB) hb); have NB219_228 := nl_ BK219 hg; have NB228_219 := ng_ BK219 hg; replace BK219 := bb_ BK219 hb; have NB220_228 := nl_ BK220 hg; have NB228_220 := ng_ BK220 hg; replace BK220 := bb_ BK220 hb; clear hb hbox hg; have hnb18 := NB228_219.out; have hnc18 := NB219_228.out; have hnb19 := NB228_220.out; have hnc19 := NB220_228.out; obtain ⟨hcz20_0, hcz20_1, hfz20_0, hfz20_1⟩ := bz2_ BK228; obtain ⟨Ao21, co21, eo21⟩ := Kd.R_slice HO225.out; subst eo21))
   generalize hW_ : ((w17.setCell ⟨gb228, 0, none⟩ (.int .i64 t222)).setCell ⟨gb228, 1, none⟩ (.slice Ao21 t223.length co21)) = w22
   replace HO225 : Aside0 (Kd.R (Kd.int .i64) 3 w22 w.heap.size (fun _ => True) (.slice Ao21 t223.length co21) t223) := ⟨by cases hW_; (with_reducible repeat (first | apply Kd.R_alloc | apply Kd.R_drewN | apply Kd.R_drew)); exact Kd.R_mono (Kd.R_far (p := ⟨gb228, 1, none⟩) (Kd.R_far (p := ⟨gb228, 0, none⟩) (Kd.R_types HO225.out BK228.out (by decide)) (fun _ hk => by first | exact hk.2 | grind) (.int .i64 t222)) (fun _ hk => by first | exact hk.2 | grind) (.slice Ao21 t223.length co21)) (fun _ hk => by first | exact trivial | grind)⟩
   replace BK219 := fc2_ hW_ BK219 NB219_228
   replace BK220 := fc2_ hW_ BK220 NB220_228
   replace BK228 : Aside0 (w22.heap[gb228]? = some (.cells #[.int .i64 t222, .slice Ao21 t223.length co21] 24 (0, 0))) := pc2_ hW_ BK228
   replace HB : Aside0 (Below w.heap.size w w22) := ⟨by cases hW_; exact bf_ HB⟩
   clear hW_; replace HO225 := Aside0.mk (Kd.R_drew HO225.out); replace BK219 := Aside0.mk (blk_drew BK219.out); replace BK220 := Aside0.mk (blk_drew BK220.out); replace BK228 := Aside0.mk (blk_drew BK228.out); replace HB := Aside0.mk (below_drew1 HB.out)
   refine start_ (n := 7) (S := fun w' => cw_ w' gb228 0 (.int .i64 t222) ∧ cw_ w' gb228 1 (.slice Ao21 t223.length co21) ∧ cw_ w' gb219 0 (.int .i64 a0_0) ∧ cw_ w' gb219 1 (.slice A0_1 l0_1.length c0_1) ∧ cw_ w' gb219 2 (.slice A0_2 l0_2.length c0_2)) (ds := []) (bs 7 0) (by kernel_rfl) rfl rfl ⟨bt_ BK228 0, bt_ BK228 1, bt_ BK219 0, bt_ BK219 1, bt_ BK219 2⟩ (fun hHeld => ?_)
   generalize w22.drew = w23 at HO225 BK219 BK220 BK228 HB hHeld ⊢
   refine ps0_ 1 35 #[oF,oT,oF,oF,oF,oF,oF] ?_
   refine tk0_ 0 34 (bs 7 2) hHeld ?_
   refine tk0_ 2 36 (bs 7 3) hHeld ?_
   refine join_ (σ := Value × Nat) 1 (bs 7 6) (fun s_ => [(37, s_.1), (10, .pointer (some ⟨s_.2, 0, none⟩)), (38, .agg #[.int .i64 t222, .slice Ao21 t223.length co21, s_.1])]) (fun s_ w' => (w'.cell? ⟨gb228, 0, none⟩ = some (.int .i64 t222) ∧ w'.cell? ⟨gb228, 1, none⟩ = some (.slice Ao21 t223.length co21) ∧ w'.cell? ⟨gb219, 0, none⟩ = some (.int .i64 a0_0) ∧ w'.cell? ⟨gb219, 1, none⟩ = some (.slice A0_1 l0_1.length c0_1) ∧ w'.cell? ⟨gb219, 2, none⟩ = some (.slice A0_2 l0_2.length c0_2)) ∧ (Kd.R (Kd.int .i64) 3 w' w.heap.size (fun _ => True) (.slice Ao21 t223.length co21) t223) ∧ (Kd.R (Kd.int .u8) 5 w' w.heap.size (fun _ => True) s_.1 t229) ∧ (w'.heap[gb219]? = some (.cells #[.int .i64 a0_0, .slice A0_1 l0_1.length c0_1, .slice A0_2 l0_2.length c0_2] 36 (0, 0))) ∧ (w'.heap[gb220]? = some (.cells #[.int .i64 0, .slice none 0 0, .slice none 0 0] 36 (0, 0))) ∧ (w'.heap[gb228]? = some (.cells #[.int .i64 t222, .slice Ao21 t223.length co21] 24 (0, 0))) ∧ (w'.heap[s_.2]? = some (.cells #[.int .i64 0, .slice none 0 0, .slice none 0 0] 36 (0, 0))) ∧ (w.heap.size ≤ s_.2) ∧ (w.heap.size ≤ s_.2) ∧ (gb219 ≠ s_.2) ∧ (s_.2 ≠ gb219) ∧ (gb220 ≠ s_.2) ∧ (s_.2 ≠ gb220) ∧ (gb228 ≠ s_.2) ∧ (s_.2 ≠ gb228) ∧ (Below w.heap.size w w')) ?_ ?_
   rotate_left
   ·intro hCont
    refine two_ (i := 3) (j := 5) (Ni := some 37) (Nj := some 10) (bs 7 4) #[oT,oT,oT,oF,oF,oT,oF] rfl rfl rfl rfl (by kernel_rfl) (by decide) (by decide) (fun K hK => ?_) (fun K hK => ?_)
    ·skip
     refine gs_ Try.func74 #[.slice A0_2 l0_2.length c0_2] ?_
     with_reducible refine (slices_Clone_byte_byte.calls _ _ l0_2 t229 _ ?side1 ?side2 A8.out).mono ?_
     (case side1 => repeat (first | exact (Kd.C_below HR0_2.out HB.out) | (with_reducible refine Kd.C_alloc ?_ _) | (with_reducible refine Kd.C_drewN ?_ _) | (with_reducible refine Kd.C_drew ?_)))
     (case side2 => exact HC0_2.out)
     rintro e w24 ⟨v230, rfl, ho0, hb⟩
     refine ⟨_, rfl, ?_⟩
     replace HO225 := Aside0.mk (Kd.R_below (kr_ HO225) hb); have HO231 := Aside0.mk (Kd.R_lower ho0 (below_size (bf_ HB))); replace BK219 := bb_ BK219 hb; replace BK220 := bb_ BK220 hb; replace BK228 := bb_ BK228 hb; replace HB := Aside0.mk (below_step (bf_ HB) hb); (try clear hb); (try clear hb2); (try clear hk); (try clear hi); (try clear ho0)
     obtain ⟨Ao25, co25, eo25⟩ := Kd.R_slice HO231.out
     (first | subst eo25 | (injection eo25 with f1_ f2_ f3_; have f4_ := f1_.symm; have f5_ := f3_.symm; clear f1_ f2_ f3_; subst f4_; subst f5_))
     refine hK.out _ _ ⟨bt_ BK228 0, bt_ BK228 1, bt_ BK219 0, bt_ BK219 1, bt_ BK219 2⟩ (fun hHeld => ?_)
     clear hK K
     refine norm_ (a' := ?_) ?_ ?_
     rotate_left
     ·show Act.put _ (some 37) _ = _
      simp only [Act.put, ls0_, ls1_, ls2_, i64_w, i32_w]
      rfl
     refine ps0_ 4 38 (bs 7 5) ?_
     refine on0_ 5 (some 10) (bs 7 6) (fun K hK => ?_)
     refine box_step ?hg (N := 10) ?hd (cs := #[.int .i64 0, .slice none 0 0, .slice none 0 0]) (t := 36) ?hr ?_; (case hd => rfl); (case hg => rfl); (case hr => first | (go_simp; done) | (go_simp; rfl))
     intro gb232 hg w26 hbox hb
     replace HO225 := Aside0.mk (Kd.R_below (kr_ HO225) hb); replace HO231 := Aside0.mk (Kd.R_below (kr_ HO231) hb); have BK232 := Aside0.mk (hbox); have GW232 := gw_ HB hg; have GE232 := gw_ HB hg; replace HB := Aside0.mk (below_step (bf_ HB) hb); have NB219_232 := nl_ BK219 hg; have NB232_219 := ng_ BK219 hg; replace BK219 := bb_ BK219 hb; have NB220_232 := nl_ BK220 hg; have NB232_220 := ng_ BK220 hg; replace BK220 := bb_ BK220 hb; have NB228_232 := nl_ BK228 hg; have NB232_228 := ng_ BK228 hg; replace BK228 := bb_ BK228 hb; clear hb hbox hg
     refine hK.out _ _ ⟨bt_ BK228 0, bt_ BK228 1, bt_ BK219 0, bt_ BK219 1, bt_ BK219 2⟩ (fun hHeld => ?_)
     clear hK K
     refine norm_ (a' := ?_) ?_ ?_
     rotate_left
     ·show Act.put _ (some 10) _ = _
      simp only [Act.put, ls0_, ls1_, ls2_, i64_w, i32_w]
      rfl
     exact norm_ (by simp only [putAll, Act.put, ls0_, ls1_, ls2_]) (hCont (.slice Ao25 t229.length co25, gb232) _ ⟨hHeld, (kr_ HO225), (kr_ HO231), (bk_ BK219), (bk_ BK220), (bk_ BK228), (bk_ BK232), GW232.out, GE232.out, NB219_232.out, NB232_219.out, NB220_232.out, NB232_220.out, NB228_232.out, NB232_228.out, (bf_ HB)⟩)
    ·skip
     refine box_step ?hg (N := 10) ?hd (cs := #[.int .i64 0, .slice none 0 0, .slice none 0 0]) (t := 36) ?hr ?_; (case hd => rfl); (case hg => rfl); (case hr => first | (go_simp; done) | (go_simp; rfl))
     intro gb232 hg w24 hbox hb
     replace HO225 := Aside0.mk (Kd.R_below (kr_ HO225) hb); have BK232 := Aside0.mk (hbox); have GW232 := gw_ HB hg; have GE232 := gw_ HB hg; replace HB := Aside0.mk (below_step (bf_ HB) hb); have NB219_232 := nl_ BK219 hg; have NB232_219 := ng_ BK219 hg; replace BK219 := bb_ BK219 hb; have NB220_232 := nl_ BK220 hg; have NB232_220 := ng_ BK220 hg; replace BK220 := bb_ BK220 hb; have NB228_232 := nl_ BK228 hg; have NB232_228 := ng_ BK228 hg; replace BK228 := bb_ BK228 hb; clear hb hbox hg
     refine hK.out _ _ ⟨bt_ BK228 0, bt_ BK228 1, bt_ BK219 0, bt_ BK219 1, bt_ BK219 2⟩ (fun hHeld => ?_)
     clear hK K
     refine norm_ (a' := ?_) ?_ ?_
     rotate_left
     ·show Act.put _ (some 10) _ = _
      simp only [Act.put, ls0_, ls1_, ls2_, i64_w, i32_w]
      rfl
     refine on0_ 3 (some 37) #[oT,oT,oT,oT,oF,oT,oF] (fun K hK => ?_)
     refine gs_ Try.func74 #[.slice A0_2 l0_2.length c0_2] ?_
     with_reducible refine (slices_Clone_byte_byte.calls _ _ l0_2 t229 _ ?side1 ?side2 A8.out).mono ?_
     (case side1 => repeat (first | exact (Kd.C_below HR0_2.out HB.out) | (with_reducible refine Kd.C_alloc ?_ _) | (with_reducible refine Kd.C_drewN ?_ _) | (with_reducible refine Kd.C_drew ?_)))
     (case side2 => exact HC0_2.out)
     rintro e w25 ⟨v230, rfl, ho0, hb⟩
     refine ⟨_, rfl, ?_⟩
     replace HO225 := Aside0.mk (Kd.R_below (kr_ HO225) hb); have HO231 := Aside0.mk (Kd.R_lower ho0 (below_size (bf_ HB))); replace BK219 := bb_ BK219 hb; replace BK220 := bb_ BK220 hb; replace BK228 := bb_ BK228 hb; replace BK232 := bb_ BK232 hb; replace HB := Aside0.mk (below_step (bf_ HB) hb); (try clear hb); (try clear hb2); (try clear hk); (try clear hi); (try clear ho0)
     obtain ⟨Ao26, co26, eo26⟩ := Kd.R_slice HO231.out
     (first | subst eo26 | (injection eo26 with f1_ f2_ f3_; have f4_ := f1_.symm; have f5_ := f3_.symm; clear f1_ f2_ f3_; subst f4_; subst f5_))
     refine hK.out _ _ ⟨bt_ BK228 0, bt_ BK228 1, bt_ BK219 0, bt_ BK219 1, bt_ BK219 2⟩ (fun hHeld => ?_)
     clear hK K
     refine norm_ (a' := ?_) ?_ ?_
     rotate_left
     ·show Act.put _ (some 37) _ = _
      simp only [Act.put, ls0_, ls1_, ls2_, i64_w, i32_w]
      rfl
     refine ps0_ 4 38 (bs 7 6) ?_
     exact norm_ (by simp only [putAll, Act.put, ls0_, ls1_, ls2_]) (hCont (.slice Ao26 t229.length co26, gb232) _ ⟨hHeld, (kr_ HO225), (kr_ HO231), (bk_ BK219), (bk_ BK220), (bk_ BK228), (bk_ BK232), GW232.out, GE232.out, NB219_232.out, NB232_219.out, NB220_232.out, NB232_220.out, NB228_232.out, NB232_228.out, (bf_ HB)⟩)
   rintro ⟨v230, gb232⟩ w27 ⟨hS_, h0_, h1_, h2_, h3_, h4_, h5_, h6_, h7_, h8_, h9_, h10_, h11_, h12_, h13_, h14_⟩
   have n0_ : Aside0 (Kd.R (Kd.int .i64) 3 w27 w.heap.size (fun _ => True) (.slice Ao21 t223.length co21) t223) := ⟨h0_⟩
   have n1_ : Aside0 (Kd.R (Kd.int .u8) 5 w27 w.heap.size (fun _ => True) v230 t229) := ⟨h1_⟩
   have n2_ : Aside0 (w27.heap[gb219]? = some (.cells #[.int .i64 a0_0, .slice A0_1 l0_1.length c0_1, .slice A0_2 l0_2.length c0_2] 36 (0, 0))) := ⟨h2_⟩
   have n3_ : Aside0 (w27.heap[gb220]? = some (.cells #[.int .i64 0, .slice none 0 0, .slice none 0 0] 36 (0, 0))) := ⟨h3_⟩
   have n4_ : Aside0 (w27.heap[gb228]? = some (.cells #[.int .i64 t222, .slice Ao21 t223.length co21] 24 (0, 0))) := ⟨h4_⟩
   have n5_ : Aside0 (w27.heap[gb232]? = some (.cells #[.int .i64 0, .slice none 0 0, .slice none 0 0] 36 (0, 0))) := ⟨h5_⟩
   have n6_ : Aside0 (w.heap.size ≤ gb232) := ⟨h6_⟩
   have n7_ : Aside0 (w.heap.size ≤ gb232) := ⟨h7_⟩
   have n8_ : Aside0 (gb219 ≠ gb232) := ⟨h8_⟩
   have n9_ : Aside0 (gb232 ≠ gb219) := ⟨h9_⟩
   have n10_ : Aside0 (gb220 ≠ gb232) := ⟨h10_⟩
   have n11_ : Aside0 (gb232 ≠ gb220) := ⟨h11_⟩
   have n12_ : Aside0 (gb228 ≠ gb232) := ⟨h12_⟩
   have n13_ : Aside0 (gb232 ≠ gb228) := ⟨h13_⟩
   have n14_ : Aside0 (Below w.heap.size w w27) := ⟨h14_⟩
   clear HO225 BK219 BK220 BK228 HB h0_ h1_ h2_ h3_ h4_ h5_ h6_ h7_ h8_ h9_ h10_ h11_ h12_ h13_ h14_; have HO225 := n0_; have HO231 := n1_; have BK219 := n2_; have BK220 := n3_; have BK228 := n4_; have BK232 := n5_; have GW232 := n6_; have GE232 := n7_; have NB219_232 := n8_; have NB232_219 := n9_; have NB220_232 := n10_; have NB232_220 := n11_; have NB228_232 := n12_; have NB232_228 := n13_; have HB := n14_; clear n0_ n1_ n2_ n3_ n4_ n5_ n6_ n7_ n8_ n9_ n10_ n11_ n12_ n13_ n14_
   have hHeld : w27.cell? ⟨gb228, 0, none⟩ = some (.int .i64 t222) ∧ w27.cell? ⟨gb228, 1, none⟩ = some (.slice Ao21 t223.length co21) ∧ w27.cell? ⟨gb219, 0, none⟩ = some (.int .i64 a0_0) ∧ w27.cell? ⟨gb219, 1, none⟩ = some (.slice A0_1 l0_1.length c0_1) ∧ w27.cell? ⟨gb219, 2, none⟩ = some (.slice A0_2 l0_2.length c0_2) := hS_
   obtain ⟨Ao28, co28, eo28⟩ := Kd.R_slice HO231.out
   (first | subst eo28 | (injection eo28 with f1_ f2_ f3_; have f4_ := f1_.symm; have f5_ := f3_.symm; clear f1_ f2_ f3_; subst f4_; subst f5_))
   refine norm_ (a' := ?_) ?_ ?_
   rotate_left
   ·simp only [putAll, Act.put, ls0_, ls1_, ls2_]
    rfl
   refine on0_ 6 none (bs 7 7) (fun K hK => ?_)
   have hs29 := bc_ BK232 0 (.int .i64 0) rfl; have hfs29 := blk_frozen BK232.out 0; have hns29_0 := NB219_232.out; have hns29_1 := NB220_232.out; have hns29_2 := NB228_232.out; have hms29_0 := NB232_219.out; have hms29_1 := NB232_220.out; have hms29_2 := NB232_228.out; have hs30 := bc_ BK232 1 (.slice none 0 0) rfl; have hfs30 := blk_frozen BK232.out 1; have hns30_0 := NB219_232.out; have hns30_1 := NB220_232.out; have hns30_2 := NB228_232.out; have hms30_0 := NB232_219.out; have hms30_1 := NB232_220.out; have hms30_2 := NB232_228.out; have hs31 := bc_ BK232 2 (.slice none 0 0) rfl; have hfs31 := blk_frozen BK232.out 2; have hns31_0 := NB219_232.out; have hns31_1 := NB220_232.out; have hns31_2 := NB228_232.out; have hms31_0 := NB232_219.out; have hms31_1 := NB232_220.out; have hms31_2 := NB232_228.out
   refine skip_ (w1 := ?_) (by rfl) rfl ?_ ?_
   rotate_left
   ·go_simp
    rfl
   refine hK.out _ _ ⟨(cf3_ NB228_232.out hHeld.1), (cf3_ NB228_232.out hHeld.2.1), (cf3_ NB219_232.out hHeld.2.2.1), (cf3_ NB219_232.out hHeld.2.2.2.1), (cf3_ NB219_232.out hHeld.2.2.2.2)⟩ (fun hHeld => ?_)
   clear hK K
   refine done_ (by kernel_rfl) ?_
   have hnb32 := NB228_232.out; have hnc32 := NB232_228.out; obtain ⟨hcz33_0, hcz33_1, hfz33_0, hfz33_1⟩ := bz2_ BK228
   try go_wp2_with (first | ((with_reducible refine gc_ 68 rfl ?_); refine gl_ 41 Try.func68 #[.agg #[.int .i64 t222, .slice Ao21 t223.length co21], .int .i64 t226] ?_; (with_reducible refine (impl_Slab_chain.calls k t222 _ _ t223 t226 t233 _ ?side1 ?side2 A9.out).mono ?_); (case side1 => refine (Kd.R_reads' (e := 3) (base := w.heap.size) (ok := fun k_ => True) (n := t223.length) (c := co21) ?_).2.2; exact (by (with_reducible repeat (first | apply Kd.R_alloc | apply Kd.R_drewN | apply Kd.R_drew)); exact (rf3_ HO225 BK232 (.int .i64 t222) (.slice Ao21 t223.length co21) (.slice Ao28 t229.length co28)))); (case side2 => exact (Kd.R_reads' HO225.out).2.1); rintro e w34 ⟨v234, rfl, ho0, hb⟩; refine ⟨_, rfl, ?_⟩; replace HO231 := Aside0.mk (Kd.R_below (by (with_reducible repeat (first | apply Kd.R_alloc | apply Kd.R_drewN | apply Kd.R_drew)); exact (rf3_ HO231 BK232 (.int .i64 t222) (.slice Ao21 t223.length co21) (.slice Ao28 t229.length co28))) hb); have HO235 := Aside0.mk (Kd.R_lower (Kd.R_new' ho0 (Kd.R_lt (by (with_reducible repeat (first | apply Kd.R_alloc | apply Kd.R_drewN | apply Kd.R_drew)); exact (rf3_ HO225 BK232 (.int .i64 t222) (.slice Ao21 t223.length co21) (.slice Ao28 t229.length co28))))) (below_size (bf_ HB))); replace HO225 := Aside0.mk (Kd.R_elder' (by (with_reducible repeat (first | apply Kd.R_alloc | apply Kd.R_drewN | apply Kd.R_drew)); exact (rf3_ HO225 BK232 (.int .i64 t222) (.slice Ao21 t223.length co21) (.slice Ao28 t229.length co28))) (Kd.R_base ho0) hb); replace BK219 := bm_ BK219 hb; replace BK220 := bm_ BK220 hb; replace BK228 := bm_ BK228 hb; replace BK232 := Aside0.mk (blk_below (g := gb232) (o := .cells #[.int .i64 t222, .slice Ao21 t223.length co21, .slice Ao28 t229.length co28] 36 (0, 0)) (by (with_reducible repeat (first | refine blk_drewN ?_ _ | refine blk_drew ?_ | refine blk_alloc ?_ _)); refine blk_put (cs := #[.int .i64 t222, .slice Ao21 t223.length co21, .slice none 0 0]) ?_ 2 _ rfl; (with_reducible repeat (first | refine blk_drewN ?_ _ | refine blk_drew ?_ | refine blk_alloc ?_ _)); refine blk_put (cs := #[.int .i64 t222, .slice none 0 0, .slice none 0 0]) ?_ 1 _ rfl; (with_reducible repeat (first | refine blk_drewN ?_ _ | refine blk_drew ?_ | refine blk_alloc ?_ _)); refine blk_put (cs := #[.int .i64 0, .slice none 0 0, .slice none 0 0]) ?_ 0 _ rfl; exact bk_ BK232) hb); replace HB := Aside0.mk (below_step (bf_ HB) hb); (try clear hb); (try clear hb2); (try clear hk); (try clear hi); (try clear ho0); obtain ⟨Ao35, co35, eo35⟩ := Kd.R_slice HO235.out; subst eo35))
   go_loopg [43] k (fun kq v43 w' => ∃ (x43_1 : Int) (x233002_1 : List Int) (u233002 : Value), v43 = .int .i64 x43_1 ∧ Aside0 (impl_StorePut.l0 kq l1 t226 t233 (t233.length : Int) x43_1 t222 t223 x233002_1 = some (r1, r2, r3, r4, r5)) ∧ Aside0 (kq ≤ k) ∧ Aside0 (Kd.R (Kd.int .i64) 3 w' w.heap.size (fun k_ => some k_ ≠ ((.slice Ao21 t223.length co21) : Value).ownBlock ∧ some k_ ≠ ((.slice Ao21 t223.length co21) : Value).ownBlock) (.slice Ao35 t233.length co35) t233) ∧ Aside0 (Kd.R (Kd.int .i64) 3 w' w.heap.size (fun k_ => some k_ ≠ ((.slice Ao35 t233.length co35) : Value).ownBlock) (.slice Ao21 t223.length co21) t223) ∧ Aside0 (Kd.R (Kd.int .i64) 3 w' w.heap.size (fun k_ => some k_ ≠ ((.slice Ao35 t233.length co35) : Value).ownBlock) (.slice Ao21 t223.length co21) t223) ∧ Aside0 (Kd.R (Kd.int .u8) 5 w' w.heap.size (fun _ => True) u233002 x233002_1) ∧ Aside0 (w'.heap[gb219]? = some (.cells #[.int .i64 a0_0, (.slice A0_1 l0_1.length c0_1), (.slice A0_2 l0_2.length c0_2)] 36 (0, 0))) ∧ Aside0 (w'.heap[gb220]? = some (.cells #[.int .i64 0, (.slice none 0 0), (.slice none 0 0)] 36 (0, 0))) ∧ Aside0 (w'.heap[gb228]? = some (.cells #[.int .i64 t222, (.slice Ao21 t223.length co21)] 24 (0, 0))) ∧ Aside0 (w'.heap[gb232]? = some (.cells #[.int .i64 t222, (.slice Ao21 t223.length co21), u233002] 36 (0, 0))) ∧ Aside0 (Below w.heap.size w w'))
   case atStart => exact ⟨(0), (t229), (.slice Ao28 t229.length co28), (by first | rfl | (simp; done) | (simp [*]; done)), H', ⟨Nat.le_refl _⟩, ⟨by (with_reducible repeat (first | apply Kd.R_alloc | apply Kd.R_drewN | apply Kd.R_drew)); exact Kd.R_mono HO235.out (fun _ hk => by first | exact ⟨hk.2, hk.2⟩ | grind)⟩, ⟨by (with_reducible repeat (first | apply Kd.R_alloc | apply Kd.R_drewN | apply Kd.R_drew)); exact Kd.R_mono HO225.out (fun _ hk => by first | exact hk.2 | grind)⟩, ⟨by (with_reducible repeat (first | apply Kd.R_alloc | apply Kd.R_drewN | apply Kd.R_drew)); exact Kd.R_mono HO225.out (fun _ hk => by first | exact hk.2 | grind)⟩, ⟨kr_ HO231⟩, ⟨bk_ BK219⟩, ⟨bk_ BK220⟩, ⟨bk_ BK228⟩, ⟨bk_ BK232⟩, ⟨bf_ HB⟩⟩
   case round =>
    clear H'
    (try clear c1); (try clear p2); (try clear c3); (try clear c4); (try clear c6); (try clear p6); (try clear c7); (try clear c7b0); (try clear c7b1); (try clear c12); (try clear c18); (try clear c19); (try clear c32); (try clear hcz13_0 hcz13_1 hcz13_2 hfz13_0 hfz13_1 hfz13_2); (try clear hcz15_0 hcz15_1 hcz15_2 hfz15_0 hfz15_1 hfz15_2); (try clear hcz20_0 hcz20_1 hfz20_0 hfz20_1); (try clear hcz33_0 hcz33_1 hfz33_0 hfz33_1)
    obtain ⟨x43_1, x233002_1, u233002, rfl, HA, HK1, HO_41, HO_229001, HO_233001, HO_233002, BK219, BK220, BK228, BK232, HB⟩ := hrel
    cases gk with
    | zero => exact absurd HA.out (by simp [impl_StorePut.l0])
    | succ k1 =>
     have H := HA.out
     clear HA
     simp only [impl_StorePut.l0] at H
     by_cases c36 : x43_1 < (t233.length : Int)
     ·rw [if_pos c36] at H
      have c36b0 : decide (x43_1 < (t233.length : Int)) = true := decide_eq_true c36
      clear c36
      by_cases c37 : 0 ≤ x43_1
      ·rw [if_pos c37] at H
       have c37b0 : decide (0 ≤ x43_1) = true := decide_eq_true c37
       clear c37
       by_cases c38 : x43_1 < (t233.length : Int)
       ·rw [if_pos c38] at H
        have c38b0 : decide (x43_1 < (t233.length : Int)) = true := decide_eq_true c38
        clear c38
        obtain ⟨ji39, hji39⟩ : ∃ j_ : Int, (wrap64 (16 * (rd t233 x43_1))) = j_ := ⟨_, rfl⟩
        replace H : (if 0 ≤ (ji39) then (if (ji39) ≤ (wrap64 (16 * (wrap64 ((rd t233 x43_1) + 1)))) then (if (wrap64 (16 * (wrap64 ((rd t233 x43_1) + 1)))) ≤ (x233002_1.length : Int) then ((some ((x233002_1.take ((wrap64 (16 * (wrap64 ((rd t233 x43_1) + 1)))) : Int).toNat).drop ((ji39) : Int).toNat : List Int)).bind fun y237 => (if 0 ≤ (mn (l1.length : Int) (wrap64 (16 * x43_1))) then (if (mn (l1.length : Int) (wrap64 (16 * x43_1))) ≤ (l1.length : Int) then (impl_StorePut.l0 k1 l1 t226 t233 (t233.length : Int) (wrap64 (x43_1 + 1)) t222 t223 (x233002_1.take ((ji39) : Int).toNat ++ ((l1.drop ((mn (l1.length : Int) (wrap64 (16 * x43_1))) : Int).toNat).take (min (l1.drop ((mn (l1.length : Int) (wrap64 (16 * x43_1))) : Int).toNat).length y237.length) ++ x233002_1.drop (((ji39) : Int).toNat + min (l1.drop ((mn (l1.length : Int) (wrap64 (16 * x43_1))) : Int).toNat).length y237.length)))) else (none)) else (none))) else (none)) else (none)) else (none)) = some (r1, r2, r3, r4, r5) := by first | (rw [hji39] at H; exact H) | (simp only [hji39] at H ⊢; exact H)
        have hji39w : (IntKind.i64.wrap (16 * (rd t233 x43_1))) = ji39 := (i64_w _).trans hji39
        by_cases c40 : 0 ≤ (ji39)
        ·rw [if_pos c40] at H
         have c40b0 := eq_true c40
         have c40b1 : decide (0 ≤ (ji39)) = true := decide_eq_true c40
         clear c40
         by_cases c41 : (ji39) ≤ (wrap64 (16 * (wrap64 ((rd t233 x43_1) + 1))))
         ·rw [if_pos c41] at H
          have c41b0 := eq_true c41
          have c41b1 : decide ((ji39) ≤ (wrap64 (16 * (wrap64 ((rd t233 x43_1) + 1))))) = true := decide_eq_true c41
          by_cases c42 : (wrap64 (16 * (wrap64 ((rd t233 x43_1) + 1)))) ≤ (x233002_1.length : Int)
          ·rw [if_pos c42] at H
           have c42b0 := eq_true c42
           have c42b1 : decide ((wrap64 (16 * (wrap64 ((rd t233 x43_1) + 1)))) ≤ (x233002_1.length : Int)) = true := decide_eq_true c42
           obtain ⟨y237, hy237⟩ : ∃ y_ : List Int, y_ = ((x233002_1.take ((wrap64 (16 * (wrap64 ((rd t233 x43_1) + 1)))) : Int).toNat).drop ((ji39) : Int).toNat) := ⟨_, rfl⟩
           replace H : (if 0 ≤ (mn (l1.length : Int) (wrap64 (16 * x43_1))) then (if (mn (l1.length : Int) (wrap64 (16 * x43_1))) ≤ (l1.length : Int) then (impl_StorePut.l0 k1 l1 t226 t233 (t233.length : Int) (wrap64 (x43_1 + 1)) t222 t223 (x233002_1.take ((ji39) : Int).toNat ++ ((l1.drop ((mn (l1.length : Int) (wrap64 (16 * x43_1))) : Int).toNat).take (min (l1.drop ((mn (l1.length : Int) (wrap64 (16 * x43_1))) : Int).toNat).length y237.length) ++ x233002_1.drop (((ji39) : Int).toNat + min (l1.drop ((mn (l1.length : Int) (wrap64 (16 * x43_1))) : Int).toNat).length y237.length)))) else (none)) else (none)) = some (r1, r2, r3, r4, r5) := by first | (rw [hy237]; with_reducible exact H) | (have H2_ := (Option.bind_some _ _).symm.trans H; rw [hy237]; with_reducible exact H2_) | (have H2_ := (Option.bind_some _ _).symm.trans H; with_reducible exact H2_) | with_reducible exact H | (rw [hy237]; exact H) | exact H
           have Ny237 := Aside0.mk hy237
           clear hy237
           obtain ⟨ji43, hji43⟩ : ∃ j_ : Int, (mn (l1.length : Int) (wrap64 (16 * x43_1))) = j_ := ⟨_, rfl⟩
           replace H : (if 0 ≤ (ji43) then (if (ji43) ≤ (l1.length : Int) then (impl_StorePut.l0 k1 l1 t226 t233 (t233.length : Int) (wrap64 (x43_1 + 1)) t222 t223 (x233002_1.take ((ji39) : Int).toNat ++ ((l1.drop ((ji43) : Int).toNat).take (min (l1.drop ((ji43) : Int).toNat).length y237.length) ++ x233002_1.drop (((ji39) : Int).toNat + min (l1.drop ((ji43) : Int).toNat).length y237.length)))) else (none)) else (none)) = some (r1, r2, r3, r4, r5) := by first | (rw [hji43] at H; exact H) | (simp only [hji43] at H ⊢; exact H)
           have hji43_ : (if (wrap64 (16 * x43_1)) < (l1.length : Int) then (wrap64 (16 * x43_1)) else (l1.length : Int)) = ji43 := hji43
           by_cases c44 : 0 ≤ (ji43)
           ·rw [if_pos c44] at H
            have c44b0 := eq_true c44
            have c44b1 : decide (0 ≤ (ji43)) = true := decide_eq_true c44
            clear c44
            by_cases c45 : (ji43) ≤ (l1.length : Int)
            ·rw [if_pos c45] at H
             have c45b0 := eq_true c45
             have c45b1 : decide ((ji43) ≤ (l1.length : Int)) = true := decide_eq_true c45
             clear c45
             obtain ⟨y242, hy242⟩ : ∃ y_ : List Int, y_ = (x233002_1.take ((ji39) : Int).toNat ++ ((l1.drop ((ji43) : Int).toNat).take (min (l1.drop ((ji43) : Int).toNat).length y237.length) ++ x233002_1.drop (((ji39) : Int).toNat + min (l1.drop ((ji43) : Int).toNat).length y237.length))) := ⟨_, rfl⟩
             replace H : (impl_StorePut.l0 k1 l1 t226 t233 (t233.length : Int) (wrap64 (x43_1 + 1)) t222 t223 y242) = some (r1, r2, r3, r4, r5) := by first | (rw [hy242]; with_reducible exact H) | (have H2_ := (Option.bind_some _ _).symm.trans H; rw [hy242]; with_reducible exact H2_) | (have H2_ := (Option.bind_some _ _).symm.trans H; with_reducible exact H2_) | with_reducible exact H | (rw [hy242]; exact H) | exact H
             have Ny242 := Aside0.mk hy242
             clear hy242
             have H' := Aside0.mk H
             clear H
             have p236 : 0 ≤ (x43_1 : Int) := od_
             have q236 : x43_1 < (t233.length : Int) := od_
             obtain ⟨ad236, e236, hx236_0⟩ := Kd.at_int (Kd.R_reads' HO_41.out).2.2 x43_1 p236 q236
             cases e236
             replace p236 := eq_true p236
             replace q236 := eq_true q236
             try go_wp2
             replace HO_41 := Aside0.mk (Kd.R_drew HO_41.out); replace HO_229001 := Aside0.mk (Kd.R_drew HO_229001.out); replace HO_233001 := Aside0.mk (Kd.R_drew HO_233001.out); replace HO_233002 := Aside0.mk (Kd.R_drew HO_233002.out); replace BK219 := Aside0.mk (blk_drew BK219.out); replace BK220 := Aside0.mk (blk_drew BK220.out); replace BK228 := Aside0.mk (blk_drew BK228.out); replace BK232 := Aside0.mk (blk_drew BK232.out); replace HB := Aside0.mk (below_drew1 HB.out)
             obtain ⟨Ao48, co48, eo48⟩ := Kd.R_slice HO_233002.out
             (first | subst eo48 | (injection eo48 with f1_ f2_ f3_; have f4_ := f1_.symm; have f5_ := f3_.symm; clear f1_ f2_ f3_; subst f4_; subst f5_))
             have q47 : ((wrap64 (16 * (wrap64 ((rd t233 x43_1) + 1)))) : Int) ≤ ((x233002_1.length : Int) : Int) := od_
             obtain ⟨i047, hi047, _, hsz47, _⟩ := info_parts info5
             have hroom47 : x233002_1.length ≤ co48 := (Kd.R_reads' HO_233002.out).2.1
             have hC47 : Kd.C (Kd.int .u8) _ Ao48 x233002_1.length x233002_1 := (Kd.R_reads' HO_233002.out).2.2
             have ql47 : ((ji39) : Int) ≤ ((wrap64 (16 * (wrap64 ((rd t233 x43_1) + 1)))) : Int) := od_
             have q047 : (0 : Int) ≤ ((ji39) : Int) := od_
             have hcut47 := cut_mid (P := Try.prog) 34 5 .i64 .i64 Try.underlying34 hi047 1 hsz47 Ao48 x233002_1.length co48 (ji39) (wrap64 (16 * (wrap64 ((rd t233 x43_1) + 1)))) q047 ql47 q47 hroom47
             have hr47 := Kd.C_mid (lo := ((ji39) : Int).toNat) (hi := ((wrap64 (16 * (wrap64 ((rd t233 x43_1) + 1)))) : Int).toNat) (c := co48) hC47 (by omega) (by omega) hroom47
             obtain ⟨A47, hA47⟩ : ∃ A1, A1 = (if co48 = ((ji39) : Int).toNat then Ao48 else (Ao48 : Option Addr).map (·.add (((ji39) : Int).toNat * 1))) := ⟨_, rfl⟩
             obtain ⟨c47, hc47⟩ : ∃ c1, c1 = co48 - ((ji39) : Int).toNat := ⟨_, rfl⟩
             have hy47 : y237.length = ((wrap64 (16 * (wrap64 ((rd t233 x43_1) + 1)))) : Int).toNat - ((ji39) : Int).toNat := (by rw [Ny237.out, List.length_drop, List.length_take] <;> omega)
             rw [show ((x233002_1).take ((wrap64 (16 * (wrap64 ((rd t233 x43_1) + 1)))) : Int).toNat).drop ((ji39) : Int).toNat = y237 from Ny237.out.symm] at hr47
             replace hr47 : Kd.C (Kd.int .u8) _ A47 y237.length y237 := (by rw [hA47]; exact hr47)
             rw [← hy47, ← hA47, ← hc47] at hcut47
             have HR240 := Aside0.mk hr47
             have HC240 := Aside0.mk (show y237.length ≤ c47 from by rw [hy47, hc47]; exact Nat.sub_le_sub_right (Nat.le_trans (by omega) hroom47) _)
             clear hr47 hC47 hroom47 hi047 hsz47 hc47
             have KY47 := Aside0.mk hy47
             have KA47 := Aside0.mk hA47
             clear hy47 hA47
             have KL47 := Aside0.mk (show ((wrap64 (16 * (wrap64 ((rd t233 x43_1) + 1)))) : Int).toNat ≤ x233002_1.length from by omega)
             have KM47 := Aside0.mk (show ((ji39) : Int).toNat ≤ ((wrap64 (16 * (wrap64 ((rd t233 x43_1) + 1)))) : Int).toNat from by omega)
             replace q47 := eq_true q47
             obtain ⟨i049, hi049, _, hsz49, _⟩ := info_parts info5
             obtain ⟨A49, hcut49, hA49, hC49⟩ := print_drop_of (P := Try.prog) (Value.int .u8) 0 34 5 .i64 Try.underlying34 hi049 hsz49 A1 c1 l1 (ji43) (od_) (od_) HC1.out
             have HR241 := Aside0.mk (Kd.C_of_reads (h1 := fun _ => rfl) (hA49 _ (Kd.reads_of_C HR1.out)))
             have HC241 := Aside0.mk hC49
             clear hA49 hC49 hi049 hsz49
             refine start_ (n := 16) (S := fun w' => cw_ w' gb232 0 (.int .i64 t222) ∧ cw_ w' gb232 1 (.slice Ao21 t223.length co21) ∧ cw_ w' gb232 2 (.slice Ao48 x233002_1.length co48)) (ds := []) (bs 16 0) (by kernel_rfl) rfl rfl ⟨bt_ BK232 0, bt_ BK232 1, bt_ BK232 2⟩ (fun hHeld => ?_); refine with_tabW impl_StorePut.tab10 impl_StorePut.bits10 (fun HT_ HW_ => ?_)
             generalize wr.drew = w46 at HO_41 HO_229001 HO_233001 HO_233002 BK219 BK220 BK228 BK232 HB HR240 HR241 hHeld ⊢
             refine ps_ 0 48 (bs 16 1) HT_ ?_
             refine ps_ 2 50 (bm 16 5) HT_ ?_
             refine ps_ 3 51 (bm 16 13) HT_ ?_
             refine ps_ 4 52 (bm 16 29) HT_ ?_
             refine ps_ 5 53 (bm 16 61) HT_ ?_
             refine ps_ 6 54 (bm 16 125) HT_ ?_
             refine ps_ 8 56 (bm 16 381) HT_ ?_
             refine ps_ 9 57 (bm 16 893) HT_ ?_
             refine ps_ 10 58 (bm 16 1917) HT_ ?_
             refine ps_ 11 59 (bm 16 3965) HT_ ?_
             refine ps_ 12 60 (bm 16 8061) HT_ ?_
             refine ps_ 13 61 (bm 16 16253) HT_ ?_
             refine ps_ 14 62 (bm 16 32637) HT_ ?_
             refine tk_ 1 49 (bm 16 32639) HT_ HW_ hHeld ?_
             refine ps_ 7 55 (bs 16 15) HT_ ?_
             refine on_ 15 (some 63) (bs 16 16) HT_ (fun K hK => ?_)
             refine R_copycut_step_ 0 (w0 := w) w.heap.size (by rfl) (.tmp 55) (.tmp 62) 34 34 5 rfl Try.underlying34 (by kernel_rfl) Ao48 x233002_1.length co48 ((ji39) : Int).toNat x233002_1 (l1.drop ((ji43) : Int).toNat) _ _ _ _ _ _ _ rfl rfl KA47.out ?cL (kr_ HO_233002) ?cR (bf_ HB) (below_size (bf_ HB)) ?_
             (case cR => first | (rw [← show (l1.drop ((ji43) : Int).toNat).length = (l1.length - (ji43).toNat) from List.length_drop]; repeat (first | exact (Kd.C_below HR241.out HB.out) | (with_reducible refine Kd.C_alloc ?_ _) | (with_reducible refine Kd.C_drewN ?_ _) | (with_reducible refine Kd.C_drew ?_))) | (repeat (first | exact (Kd.C_below HR241.out HB.out) | (with_reducible refine Kd.C_alloc ?_ _) | (with_reducible refine Kd.C_drewN ?_ _) | (with_reducible refine Kd.C_drew ?_))))
             (case cL => have ha_ := KY47.out; have hb_ : ((ji39) : Int) ≤ ((wrap64 (16 * (wrap64 ((rd t233 x43_1) + 1)))) : Int) := od_; have hc_ : ((wrap64 (16 * (wrap64 ((rd t233 x43_1) + 1)))) : Int) ≤ ((x233002_1.length : Int) : Int) := od_; omega)
             intro w50 ho hb hg
             rw [← Ny242.out] at ho
             have n0_ := Aside0.mk (Kd.R_over' (v := (.slice Ao48 x233002_1.length co48)) (kr_ HO_41) (Kd.R_typed HO_233002.out) (by decide) hg)
             have n1_ := Aside0.mk (Kd.R_over' (v := (.slice Ao48 x233002_1.length co48)) (kr_ HO_229001) (Kd.R_typed HO_233002.out) (by decide) hg)
             have n2_ := Aside0.mk (Kd.R_over' (v := (.slice Ao48 x233002_1.length co48)) (kr_ HO_233001) (Kd.R_typed HO_233002.out) (by decide) hg)
             have n3_ := Aside0.mk (ho)
             have n4_ := Aside0.mk (blk_grown (g := gb219) (o := .cells #[.int .i64 a0_0, .slice A0_1 l0_1.length c0_1, .slice A0_2 l0_2.length c0_2] 36 (0, 0)) (bk_ BK219) hg (Kd.R_ne HO_233002.out BK219.out (by decide)))
             have n5_ := Aside0.mk (blk_grown (g := gb220) (o := .cells #[.int .i64 0, .slice none 0 0, .slice none 0 0] 36 (0, 0)) (bk_ BK220) hg (Kd.R_ne HO_233002.out BK220.out (by decide)))
             have n6_ := Aside0.mk (blk_grown (g := gb228) (o := .cells #[.int .i64 t222, .slice Ao21 t223.length co21] 24 (0, 0)) (bk_ BK228) hg (Kd.R_ne HO_233002.out BK228.out (by decide)))
             have n7_ := Aside0.mk (blk_grown (g := gb232) (o := .cells #[.int .i64 t222, .slice Ao21 t223.length co21, .slice Ao48 x233002_1.length co48] 36 (0, 0)) (bk_ BK232) hg (Kd.R_ne HO_233002.out BK232.out (by decide)))
             have n8_ := Aside0.mk (hb); clear HO_41 HO_229001 HO_233001 HO_233002 BK219 BK220 BK228 BK232 HB; have HO_41 := n0_; have HO_229001 := n1_; have HO_233001 := n2_; have HO_233002 := n3_; have BK219 := n4_; have BK220 := n5_; have BK228 := n6_; have BK232 := n7_; have HB := n8_; clear n0_ n1_ n2_ n3_ n4_ n5_ n6_ n7_ n8_ ho hb hg
             refine hK.out _ _ ⟨bt_ BK232 0, bt_ BK232 1, bt_ BK232 2⟩ (fun hHeld => ?_)
             clear hK K
             refine norm_ (a' := ?_) ?_ ?_
             rotate_left
             ·show Act.put _ (some 63) _ = _
              simp only [Act.put, ls0_, ls1_, ls2_, i64_w, i32_w]
              rfl
             refine done_ (done_of HT_.out (by kernel_rfl)) ?_
             try go_wp2
             go_roundg k1
             case measure => have := HK1.out; omega
             case rel => exact ⟨(wrap64 (x43_1 + 1)), (y242), (.slice Ao48 x233002_1.length co48), (by first | rfl | (simp; done) | (simp [*]; done)), H', ⟨by have := HK1.out; omega⟩, ⟨kr_ HO_41⟩, ⟨kr_ HO_229001⟩, ⟨kr_ HO_233001⟩, ⟨kr_ HO_233002⟩, ⟨bk_ BK219⟩, ⟨bk_ BK220⟩, ⟨bk_ BK228⟩, ⟨bk_ BK232⟩, ⟨bf_ HB⟩⟩
            ·rw [if_neg c45] at H
             exact absurd H (by simp)
           ·rw [if_neg c44] at H
            exact absurd H (by simp)
          ·rw [if_neg c42] at H
           exact absurd H (by simp)
         ·rw [if_neg c41] at H
          exact absurd H (by simp)
        ·rw [if_neg c40] at H
         exact absurd H (by simp)
       ·rw [if_neg c38] at H
        exact absurd H (by simp)
      ·rw [if_neg c37] at H
       exact absurd H (by simp)
     ·rw [if_neg c36] at H
      have c36b0 : decide (x43_1 < (t233.length : Int)) = false := decide_eq_false c36
      clear c36
      simp only [Option.some.injEq, Prod.mk.injEq] at H
      obtain ⟨rfl, rfl, rfl, rfl, rfl⟩ := H
      have hnb52 := NB232_219.out; have hnc52 := NB219_232.out; have hnb53 := NB232_220.out; have hnc53 := NB220_232.out; have hnb54 := NB232_228.out; have hnc54 := NB228_232.out; obtain ⟨hcz55_0, hcz55_1, hcz55_2, hfz55_0, hfz55_1, hfz55_2⟩ := bz3_ BK232; have hnb56 := NB220_219.out; have hnc56 := NB219_220.out; have hnb57 := NB220_228.out; have hnc57 := NB228_220.out; obtain ⟨hcz58_0, hcz58_1, hcz58_2, hfz58_0, hfz58_1, hfz58_2⟩ := bz3_ BK220
      obtain ⟨Ao59, co59, eo59⟩ := Kd.R_slice HO_233002.out
      subst eo59
      go_wp2
      refine bodyPost_ret (results_ctt rfl _ _ gb220 36 #[.int .i64 t222, .slice Ao21 t223.length co21, .slice Ao59 x233002_1.length co59] (0, 0) _ rfl (by (with_reducible repeat (first | refine blk_drewN ?_ _ | refine blk_drew ?_ | refine blk_alloc ?_ _)); refine blk_put (cs := #[.int .i64 t222, .slice Ao21 t223.length co21, .slice none 0 0]) ?_ 2 _ rfl; (with_reducible repeat (first | refine blk_drewN ?_ _ | refine blk_drew ?_ | refine blk_alloc ?_ _)); refine blk_put (cs := #[.int .i64 t222, .slice none 0 0, .slice none 0 0]) ?_ 1 _ rfl; (with_reducible repeat (first | refine blk_drewN ?_ _ | refine blk_drew ?_ | refine blk_alloc ?_ _)); refine blk_put (cs := #[.int .i64 0, .slice none 0 0, .slice none 0 0]) ?_ 0 _ rfl; exact bk_ BK220) Try.underlying36 rfl (by kernel_rfl)) rfl ?_
      exact ⟨_, _, by first | rfl | (simp [errW_none, errW_some] <;> rfl) | (simp only [← hji5]; first | rfl | (simp [errW_none, errW_some] <;> rfl)) | (simp [*, errW_none, errW_some] <;> rfl), by (with_reducible repeat (first | apply Kd.R_alloc | apply Kd.R_drewN | apply Kd.R_drew)); exact Kd.R_mono (Kd.R_far (p := ⟨gb220, 2, none⟩) (Kd.R_far (p := ⟨gb220, 1, none⟩) (Kd.R_far (p := ⟨gb220, 0, none⟩) (Kd.R_types HO_233001.out BK220.out (by decide)) (fun _ hk => by first | exact hk.2 | grind) (.int .i64 t222)) (fun _ hk => by first | exact hk.2 | grind) (.slice Ao21 t223.length co21)) (fun _ hk => by first | exact hk.2 | grind) (.slice Ao59 x233002_1.length co59)) (fun _ hk => by first | exact trivial | grind), by (with_reducible repeat (first | apply Kd.R_alloc | apply Kd.R_drewN | apply Kd.R_drew)); exact Kd.R_mono (Kd.R_far (p := ⟨gb220, 2, none⟩) (Kd.R_far (p := ⟨gb220, 1, none⟩) (Kd.R_far (p := ⟨gb220, 0, none⟩) (Kd.R_types HO_233002.out BK220.out (by decide)) (fun _ hk => by first | exact hk.2 | grind) (.int .i64 t222)) (fun _ hk => by first | exact hk.2 | grind) (.slice Ao21 t223.length co21)) (fun _ hk => by first | exact hk.2 | grind) (.slice Ao59 x233002_1.length co59)) (fun _ hk => by first | exact trivial | grind), bf_ HB⟩
  ·rw [if_neg c7] at H
   have c7b0 : (t227 == 0) = false := beq_eq_false_iff_ne.mpr c7
   have c7b1 : (t227 != 0) = true := bne_iff_ne.mpr c7
   simp only [Option.some.injEq, Prod.mk.injEq] at H
   obtain ⟨rfl, rfl, rfl, rfl, rfl⟩ := H
   go_enter Try.func49, Try.ntmps49
   go_wp2_with (first | ((with_reducible refine gd_ 2 rfl ?_); refine bv_ 2 #[.int .i64 a0_0, .slice A0_1 l0_1.length c0_1, .slice A0_2 l0_2.length c0_2] 36 ?_; intro gb219 hg w60 hbox hb; have BK219 := Aside0.mk (hbox); have GW219 := gw_ HB hg; have GE219 := gw_ HB hg; replace HB := Aside0.mk (below_step (be_ HB) hb); clear hb hbox hg) | ((with_reducible refine gd_ 4 rfl ?_); refine bv_ 4 #[.int .i64 0, .slice none 0 0, .slice none 0 0] 36 ?_; intro gb220 hg w61 hbox hb; have BK220 := Aside0.mk (hbox); have GW220 := gw_ HB hg; have GE220 := gw_ HB hg; replace HB := Aside0.mk (below_step (bf_ HB) hb); have NB219_220 := nl_ BK219 hg; have NB220_219 := ng_ BK219 hg; replace BK219 := bb_ BK219 hb; clear hb hbox hg; have hnb62 := NB219_220.out; have hnc62 := NB220_219.out; obtain ⟨hcz63_0, hcz63_1, hcz63_2, hfz63_0, hfz63_1, hfz63_2⟩ := bz3_ BK219) | ((with_reducible refine gc_ 41 rfl ?_); refine gl_ 14 Try.func41 #[.agg #[.int .i64 a0_0, .slice A0_1 l0_1.length c0_1, .slice A0_2 l0_2.length c0_2]] ?_; (with_reducible refine (impl_StoreOk.calls k a0_0 _ _ l0_1 _ _ l0_2 true _ ?side1 ?side2 ?side3 ?side4 A3.out).mono ?_); (case side1 => repeat (first | exact (Kd.C_below HR0_1.out HB.out) | (with_reducible refine Kd.C_alloc ?_ _) | (with_reducible refine Kd.C_drewN ?_ _) | (with_reducible refine Kd.C_drew ?_))); (case side2 => exact HC0_1.out); (case side3 => repeat (first | exact (Kd.C_below HR0_2.out HB.out) | (with_reducible refine Kd.C_alloc ?_ _) | (with_reducible refine Kd.C_drewN ?_ _) | (with_reducible refine Kd.C_drew ?_))); (case side4 => exact HC0_2.out); rintro e w64 ⟨rfl, hb⟩; refine ⟨_, rfl, ?_⟩; replace BK219 := bb_ BK219 hb; replace BK220 := bb_ BK220 hb; replace HB := Aside0.mk (below_step (bf_ HB) hb); (try clear hb); (try clear hb2); (try clear hk); (try clear hi); obtain ⟨hcz65_0, hcz65_1, hcz65_2, hfz65_0, hfz65_1, hfz65_2⟩ := bz3_ BK219) | ((with_reducible refine gc_ 45 rfl ?_); refine goesL_ (some 26) rfl rfl Try.func45 (by kernel_rfl) rfl #[.agg #[.int .i64 a0_0, .slice A0_1 l0_1.length c0_1], .int .i64 ji5] rfl (by (try simp only [List.map_toArray, List.map_cons, List.map_nil]); first | done | (simp only [hji5]; rfl) | rfl | (simp only [List.length_drop, List.length_take]; rfl)) ?_; (with_reducible refine (impl_SlabTake.calls k a0_0 _ _ l0_1 ji5 t222 t223 t226 t227 _ ?side1 ?side2 A6.out).mono ?_); (case side1 => repeat (first | exact (Kd.C_below HR0_1.out HB.out) | (with_reducible refine Kd.C_alloc ?_ _) | (with_reducible refine Kd.C_drewN ?_ _) | (with_reducible refine Kd.C_drew ?_))); (case side2 => exact HC0_1.out); rintro e w66 ⟨v224, rfl, ho0, hb⟩; refine ⟨_, rfl, ?_⟩; have HO225 := Aside0.mk (Kd.R_lower ho0 (below_size (bf_ HB))); replace BK219 := bb_ BK219 hb; replace BK220 := bb_ BK220 hb; replace HB := Aside0.mk (below_step (bf_ HB) hb); (try clear hb); (try clear hb2); (try clear hk); (try clear hi); (try clear ho0)) | ((with_reducible refine gd_ 7 rfl ?_); refine bv_ 7 #[.int .i64 0, .slice none 0 0] 24 ?_; intro gb228 hg w67 hbox hb; replace HO225 := Aside0.mk (Kd.R_below (kr_ HO225) hb); have BK228 := Aside0.mk (hbox); have GW228 := gw_ HB hg; have GE228 := gw_ HB hg; replace HB := Aside0.mk (below_step (bf_ HB) hb); have NB219_228 := nl_ BK219 hg; have NB228_219 := ng_ BK219 hg; replace BK219 := bb_ BK219 hb; have NB220_228 := nl_ BK220 hg; have NB228_220 := ng_ BK220 hg; replace BK220 := bb_ BK220 hb; clear hb hbox hg; have hnb68 := NB228_219.out; have hnc68 := NB219_228.out; have hnb69 := NB228_220.out; have hnc69 := NB220_228.out; obtain ⟨hcz70_0, hcz70_1, hfz70_0, hfz70_1⟩ := bz2_ BK228; obtain ⟨Ao71, co71, eo71⟩ := Kd.R_slice HO225.out; subst eo71; obtain ⟨hcz72_0, hcz72_1, hcz72_2, hfz72_0, hfz72_1, hfz72_2⟩ := bz3_ BK220))
   refine bodyPost_ret (results_ctt rfl _ _ gb220 36 #[.int .i64 0, .slice none 0 0, .slice none 0 0] (0, 0) _ rfl (by (with_reducible repeat (first | refine blk_drewN ?_ _ | refine blk_drew ?_ | refine blk_alloc ?_ _)); refine blk_put (cs := #[.int .i64 0, .slice none 0 0, .slice none 0 0]) ?_ 2 _ rfl; (with_reducible repeat (first | refine blk_drewN ?_ _ | refine blk_drew ?_ | refine blk_alloc ?_ _)); refine blk_put (cs := #[.int .i64 0, .slice none 0 0, .slice none 0 0]) ?_ 1 _ rfl; (with_reducible repeat (first | refine blk_drewN ?_ _ | refine blk_drew ?_ | refine blk_alloc ?_ _)); refine blk_put (cs := #[.int .i64 0, .slice none 0 0, .slice none 0 0]) ?_ 0 _ rfl; (with_reducible repeat (first | refine blk_drewN ?_ _ | refine blk_drew ?_ | refine blk_alloc ?_ _)); refine blk_far ?_ NB220_228.out _; (with_reducible repeat (first | refine blk_drewN ?_ _ | refine blk_drew ?_ | refine blk_alloc ?_ _)); refine blk_far ?_ NB220_228.out _; exact bk_ BK220) Try.underlying36 rfl (by kernel_rfl)) rfl ?_
   exact ⟨_, _, by first | rfl | (simp [errW_none, errW_some] <;> rfl) | (simp only [← hji5]; first | rfl | (simp [errW_none, errW_some] <;> rfl)) | (simp [*, errW_none, errW_some] <;> rfl), by first | exact Kd.R_nil _ _ _ _ _ | exact Kd.N_nil _ _ _ _ _ | exact Kd.V_nil _ _ _ _ _ | exact Kd.Q_nil _ _ _ _ _ | exact Kd.S_nil _ _ _ _ _, by first | exact Kd.R_nil _ _ _ _ _ | exact Kd.N_nil _ _ _ _ _ | exact Kd.V_nil _ _ _ _ _ | exact Kd.Q_nil _ _ _ _ _ | exact Kd.S_nil _ _ _ _ _, bf_ HB⟩
 ·replace c4 := Bool.eq_false_iff.mpr c4
  subst c4
  have H1 : (some (0, ([] : List Int), ([] : List Int), (-1), 1)) = some (r1, r2, r3, r4, r5) := by rw [if_neg (show ¬ (false = true) by decide)] at H; exact H
  clear H
  have H := H1
  clear H1
  simp only [Option.some.injEq, Prod.mk.injEq] at H
  obtain ⟨rfl, rfl, rfl, rfl, rfl⟩ := H
  go_enter Try.func49, Try.ntmps49
  go_wp2_with (first | ((with_reducible refine gd_ 2 rfl ?_); refine bv_ 2 #[.int .i64 a0_0, .slice A0_1 l0_1.length c0_1, .slice A0_2 l0_2.length c0_2] 36 ?_; intro gb219 hg w73 hbox hb; have BK219 := Aside0.mk (hbox); have GW219 := gw_ HB hg; have GE219 := gw_ HB hg; replace HB := Aside0.mk (below_step (be_ HB) hb); clear hb hbox hg) | ((with_reducible refine gd_ 4 rfl ?_); refine bv_ 4 #[.int .i64 0, .slice none 0 0, .slice none 0 0] 36 ?_; intro gb220 hg w74 hbox hb; have BK220 := Aside0.mk (hbox); have GW220 := gw_ HB hg; have GE220 := gw_ HB hg; replace HB := Aside0.mk (below_step (bf_ HB) hb); have NB219_220 := nl_ BK219 hg; have NB220_219 := ng_ BK219 hg; replace BK219 := bb_ BK219 hb; clear hb hbox hg; have hnb75 := NB219_220.out; have hnc75 := NB220_219.out; obtain ⟨hcz76_0, hcz76_1, hcz76_2, hfz76_0, hfz76_1, hfz76_2⟩ := bz3_ BK219) | ((with_reducible refine gc_ 41 rfl ?_); refine gl_ 14 Try.func41 #[.agg #[.int .i64 a0_0, .slice A0_1 l0_1.length c0_1, .slice A0_2 l0_2.length c0_2]] ?_; (with_reducible refine (impl_StoreOk.calls k a0_0 _ _ l0_1 _ _ l0_2 false _ ?side1 ?side2 ?side3 ?side4 A3.out).mono ?_); (case side1 => repeat (first | exact (Kd.C_below HR0_1.out HB.out) | (with_reducible refine Kd.C_alloc ?_ _) | (with_reducible refine Kd.C_drewN ?_ _) | (with_reducible refine Kd.C_drew ?_))); (case side2 => exact HC0_1.out); (case side3 => repeat (first | exact (Kd.C_below HR0_2.out HB.out) | (with_reducible refine Kd.C_alloc ?_ _) | (with_reducible refine Kd.C_drewN ?_ _) | (with_reducible refine Kd.C_drew ?_))); (case side4 => exact HC0_2.out); rintro e w77 ⟨rfl, hb⟩; refine ⟨_, rfl, ?_⟩; replace BK219 := bb_ BK219 hb; replace BK220 := bb_ BK220 hb; replace HB := Aside0.mk (below_step (bf_ HB) hb); (try clear hb); (try clear hb2); (try clear hk); (try clear hi); obtain ⟨hcz78_0, hcz78_1, hcz78_2, hfz78_0, hfz78_1, hfz78_2⟩ := bz3_ BK220))
  refine bodyPost_ret (results_ctt rfl _ _ gb220 36 #[.int .i64 0, .slice none 0 0, .slice none 0 0] (0, 0) _ rfl (by (with_reducible repeat (first | refine blk_drewN ?_ _ | refine blk_drew ?_ | refine blk_alloc ?_ _)); refine blk_put (cs := #[.int .i64 0, .slice none 0 0, .slice none 0 0]) ?_ 2 _ rfl; (with_reducible repeat (first | refine blk_drewN ?_ _ | refine blk_drew ?_ | refine blk_alloc ?_ _)); refine blk_put (cs := #[.int .i64 0, .slice none 0 0, .slice none 0 0]) ?_ 1 _ rfl; (with_reducible repeat (first | refine blk_drewN ?_ _ | refine blk_drew ?_ | refine blk_alloc ?_ _)); refine blk_put (cs := #[.int .i64 0, .slice none 0 0, .slice none 0 0]) ?_ 0 _ rfl; exact bk_ BK220) Try.underlying36 rfl (by kernel_rfl)) rfl ?_
  exact ⟨_, _, by first | rfl | (simp [errW_none, errW_some] <;> rfl) | (simp [*, errW_none, errW_some] <;> rfl), by first | exact Kd.R_nil _ _ _ _ _ | exact Kd.N_nil _ _ _ _ _ | exact Kd.V_nil _ _ _ _ _ | exact Kd.Q_nil _ _ _ _ _ | exact Kd.S_nil _ _ _ _ _, by first | exact Kd.R_nil _ _ _ _ _ | exact Kd.N_nil _ _ _ _ _ | exact Kd.V_nil _ _ _ _ _ | exact Kd.Q_nil _ _ _ _ _ | exact Kd.S_nil _ _ _ _ _, bf_ HB⟩

/-! ### spec_l16Ahead: function 66 -/
def spec_l16Ahead.l0 : Nat → Int → Int → Int → List Int → Option (Int)
  | 0, _, _, _, _ => none
  | k + 1, x1, x5, x244000, x244001 => if x5 < (x244001.length : Int) then (if 0 ≤ x5 then (if (rd x244001 x5) = x1 then (some x5) else (spec_l16Ahead.l0 k x1 (wrap64 (x5 + 1)) x244000 x244001)) else (none)) else (some (-1))
def spec_l16Ahead.f (k : Nat) (a0_0 : Int) (l0_1 : List Int) (a1 : Int) : Option (Int) := spec_l16Ahead.l0 k a1 0 a0_0 l0_1
theorem spec_l16Ahead.mono_l : ∀ k, (∀ y0 y1 y2 y3, LeO (spec_l16Ahead.l0 k y0 y1 y2 y3) (spec_l16Ahead.l0 (k + 1) y0 y1 y2 y3))
 | 0 => fun _ _ _ _ r h => by simp [spec_l16Ahead.l0] at h
 | k + 1 => by
  have ih0 := spec_l16Ahead.mono_l k
  ·intro y0 y1 y2 y3
   unfold spec_l16Ahead.l0
   repeat' first
   | (with_reducible exact ih0 _ _ _ _)
   | (with_reducible exact LeO.refl _)
   | (with_reducible exact LeO.none _)
   | (with_reducible refine LeO.ite ?_ ?_)
   | (with_reducible refine LeO.bind ?_ (fun _ => ?_))
   | exact ih0 _ _ _ _
   | exact LeO.none _
   | refine LeO.ite ?_ ?_
   | refine LeO.bind ?_ (fun _ => ?_)
theorem spec_l16Ahead.mono : ∀ a0 a1 a2 k, LeO (spec_l16Ahead.f k a0 a1 a2) (spec_l16Ahead.f (k + 1) a0 a1 a2) := by
 intro a0 a1 a2 k
 have ih0 := spec_l16Ahead.mono_l k
 unfold spec_l16Ahead.f
 repeat' first
   | (with_reducible exact ih0 _ _ _ _)
   | (with_reducible exact LeO.refl _)
   | (with_reducible exact LeO.none _)
   | (with_reducible refine LeO.ite ?_ ?_)
   | (with_reducible refine LeO.bind ?_ (fun _ => ?_))
   | exact ih0 _ _ _ _
   | exact LeO.none _
   | refine LeO.ite ?_ ?_
   | refine LeO.bind ?_ (fun _ => ?_)
set_option maxHeartbeats 8000000 in
set_option maxRecDepth 100000 in
theorem spec_l16Ahead.calls (k : Nat) (a0_0 : Int) (A0_1 : Option Addr) (c0_1 : Nat) (l0_1 : List Int) (a1 : Int) (r : Int) (w : World) (hr0_1 : Kd.C (Kd.int .i64) w A0_1 l0_1.length l0_1) (hc0_1 : l0_1.length ≤ c0_1) (h : spec_l16Ahead.f k a0_0 l0_1 a1 = some r) :
  Calls Try.prog 66 #[.agg #[.int .i64 a0_0, .slice A0_1 l0_1.length c0_1], .int .i64 a1] w fun e w' => e = .returned (.int .i64 r) ∧ Below w.heap.size w w' := by
 have hu24 := Try.underlying24
 have HR0_1 := Aside0.mk hr0_1
 have HC0_1 := Aside0.mk hc0_1
 clear hr0_1 hc0_1; have HB := Aside0.mk (Below.refl w.heap.size w)
 have H : (spec_l16Ahead.l0 k a1 0 a0_0 l0_1) = some r := h
 clear h
 have H' := Aside0.mk H
 clear H
 go_enter Try.func66, Try.ntmps66
 go_wp2_with (first | ((with_reducible refine gd_ 2 rfl ?_); refine bv_ 2 #[.int .i64 a0_0, .slice A0_1 l0_1.length c0_1] 24 ?_; intro gb243 hg w3 hbox hb; have BK243 := Aside0.mk (hbox); have GW243 := gw_ HB hg; have GE243 := gw_ HB hg; replace HB := Aside0.mk (below_step (be_ HB) hb); clear hb hbox hg))
 go_loopg [5] k (fun kq v5 w' => ∃ (x5_1 : Int), v5 = .int .i64 x5_1 ∧ Aside0 (spec_l16Ahead.l0 kq a1 x5_1 a0_0 l0_1 = some r) ∧ Aside0 (kq ≤ k) ∧ Aside0 (w'.heap[gb243]? = some (.cells #[.int .i64 a0_0, (.slice A0_1 l0_1.length c0_1)] 24 (0, 0))) ∧ Aside0 (Below w.heap.size w w'))
 case atStart => exact ⟨(0), (by first | rfl | (simp; done) | (simp [*]; done)), H', ⟨Nat.le_refl _⟩, ⟨bk_ BK243⟩, ⟨bf_ HB⟩⟩
 case round =>
  clear H'
  (try clear p2)
  obtain ⟨x5_1, rfl, HA, HK1, BK243, HB⟩ := hrel
  cases gk with
  | zero => exact absurd HA.out (by simp [spec_l16Ahead.l0])
  | succ k1 =>
   have H := HA.out
   clear HA
   simp only [spec_l16Ahead.l0] at H
   by_cases c4 : x5_1 < (l0_1.length : Int)
   ·rw [if_pos c4] at H
    have c4b0 : decide (x5_1 < (l0_1.length : Int)) = true := decide_eq_true c4
    clear c4
    by_cases c5 : 0 ≤ x5_1
    ·rw [if_pos c5] at H
     have c5b0 : decide (0 ≤ x5_1) = true := decide_eq_true c5
     clear c5
     by_cases c6 : (rd l0_1 x5_1) = a1
     ·rw [if_pos c6] at H
      have c6b0 : ((rd l0_1 x5_1) == a1) = true := beq_iff_eq.mpr c6
      have c6b1 : ((rd l0_1 x5_1) != a1) = false := bne_eq_false_iff_eq.mpr c6
      clear c6
      obtain rfl := Option.some.inj H
      obtain ⟨hcz7_0, hcz7_1, hfz7_0, hfz7_1⟩ := bz2_ BK243
      have p244 : 0 ≤ (x5_1 : Int) := od_
      have q244 : x5_1 < (l0_1.length : Int) := od_
      obtain ⟨ad244, e244, hx244_0⟩ := Kd.at_int HR0_1.out x5_1 p244 q244
      cases e244
      replace hx244_0 := hb_ HB hx244_0
      replace p244 := eq_true p244
      replace q244 := eq_true q244
      go_wp2
      go_ret
      exact ⟨by first | rfl | (simp [errW_none, errW_some] <;> rfl) | (simp [*, errW_none, errW_some] <;> rfl), bf_ HB⟩
     ·rw [if_neg c6] at H
      have c6b0 : ((rd l0_1 x5_1) == a1) = false := beq_eq_false_iff_ne.mpr c6
      have c6b1 : ((rd l0_1 x5_1) != a1) = true := bne_iff_ne.mpr c6
      have H' := Aside0.mk H
      clear H; obtain ⟨hcz8_0, hcz8_1, hfz8_0, hfz8_1⟩ := bz2_ BK243
      have p244 : 0 ≤ (x5_1 : Int) := od_
      have q244 : x5_1 < (l0_1.length : Int) := od_
      obtain ⟨ad244, e244, hx244_0⟩ := Kd.at_int HR0_1.out x5_1 p244 q244
      cases e244
      replace hx244_0 := hb_ HB hx244_0
      replace p244 := eq_true p244
      replace q244 := eq_true q244
      go_wp2
      go_roundg k1
      case measure => have := HK1.out; omega
      case rel => exact ⟨(wrap64 (x5_1 + 1)), (by first | rfl | (simp; done) | (simp [*]; done)), H', ⟨by have := HK1.out; omega⟩, ⟨bk_ BK243⟩, ⟨bf_ HB⟩⟩
    ·rw [if_neg c5] at H
     exact absurd H (by simp)
   ·rw [if_neg c4] at H
    have c4b0 : decide (x5_1 < (l0_1.length : Int)) = false := decide_eq_false c4
    clear c4
    obtain rfl := Option.some.inj H
    obtain ⟨hcz9_0, hcz9_1, hfz9_0, hfz9_1⟩ := bz2_ BK243
    go_wp2
    go_ret
    exact ⟨by first | rfl | (simp [errW_none, errW_some] <;> rfl) | (simp [*, errW_none, errW_some] <;> rfl), bf_ HB⟩

/-! ### spec_l16Head: function 65 -/
def spec_l16Head.f (k : Nat) (a0_0 : Int) (l0_1 : List Int) (a1 : Int) : Option (Bool) := if a1 ≥ 0 then (if a1 < (l0_1.length : Int) then ((spec_l16Ahead.f k a0_0 l0_1 a1).bind fun t246 => (some (decide (t246 < 0)))) else (some false)) else (some false)
theorem spec_l16Head.mono : ∀ a0 a1 a2 k, LeO (spec_l16Head.f k a0 a1 a2) (spec_l16Head.f (k + 1) a0 a1 a2) := by
 intro a0 a1 a2 k
 unfold spec_l16Head.f
 repeat' first
   | (with_reducible exact spec_l16Ahead.mono _ _ _ _)
   | (with_reducible exact LeO.refl _)
   | (with_reducible exact LeO.none _)
   | (with_reducible refine LeO.ite ?_ ?_)
   | (with_reducible refine LeO.bind ?_ (fun _ => ?_))
   | exact spec_l16Ahead.mono _ _ _ _
   | exact LeO.none _
   | refine LeO.ite ?_ ?_
   | refine LeO.bind ?_ (fun _ => ?_)
set_option maxHeartbeats 8000000 in
set_option maxRecDepth 100000 in
theorem spec_l16Head.calls (k : Nat) (a0_0 : Int) (A0_1 : Option Addr) (c0_1 : Nat) (l0_1 : List Int) (a1 : Int) (r : Bool) (w : World) (hr0_1 : Kd.C (Kd.int .i64) w A0_1 l0_1.length l0_1) (hc0_1 : l0_1.length ≤ c0_1) (h : spec_l16Head.f k a0_0 l0_1 a1 = some r) :
  Calls Try.prog 65 #[.agg #[.int .i64 a0_0, .slice A0_1 l0_1.length c0_1], .int .i64 a1] w fun e w' => e = .returned (.bool r) ∧ Below w.heap.size w w' := by
 have hu24 := Try.underlying24
 have HR0_1 := Aside0.mk hr0_1
 have HC0_1 := Aside0.mk hc0_1
 clear hr0_1 hc0_1; have HB := Aside0.mk (Below.refl w.heap.size w)
 have H : (if a1 ≥ 0 then (if a1 < (l0_1.length : Int) then ((spec_l16Ahead.f k a0_0 l0_1 a1).bind fun t246 => (some (decide (t246 < 0)))) else (some false)) else (some false)) = some r := h
 clear h
 by_cases c3 : a1 ≥ 0
 ·rw [if_pos c3] at H
  have c3b0 : decide (0 ≤ a1) = true := decide_eq_true c3
  clear c3
  by_cases c4 : a1 < (l0_1.length : Int)
  ·rw [if_pos c4] at H
   have c4b0 : decide (a1 < (l0_1.length : Int)) = true := decide_eq_true c4
   clear c4
   replace H := Option.bind_eq_some_iff.mp H
   obtain ⟨t246, A50, H⟩ := H
   replace H : (some (decide (t246 < 0))) = some r := H
   have A5 := Aside0.mk A50
   clear A50
   obtain rfl := Option.some.inj H
   go_enter Try.func65, Try.ntmps65
   go_wp2_with (first | ((with_reducible refine gd_ 2 rfl ?_); (try (refine gate_guard (by rfl) ?_; dsimp only)); refine bv_ 2 #[.int .i64 a0_0, .slice A0_1 l0_1.length c0_1] 24 ?_; intro gb245 hg w6 hbox hb; have BK245 := Aside0.mk (hbox); have GW245 := gw_ HB hg; have GE245 := gw_ HB hg; replace HB := Aside0.mk (below_step (be_ HB) hb); clear hb hbox hg; obtain ⟨hcz7_0, hcz7_1, hfz7_0, hfz7_1⟩ := bz2_ BK245) | (go_at_call 66; (with_reducible refine (spec_l16Ahead.calls k a0_0 _ _ l0_1 a1 t246 _ ?side1 ?side2 A5.out).mono ?_); (case side1 => repeat (first | exact (Kd.C_below HR0_1.out HB.out) | (with_reducible refine Kd.C_alloc ?_ _) | (with_reducible refine Kd.C_drewN ?_ _) | (with_reducible refine Kd.C_drew ?_))); (case side2 => exact HC0_1.out); rintro e w8 ⟨rfl, hb⟩; replace BK245 := bb_ BK245 hb; replace HB := Aside0.mk (below_step (bf_ HB) hb); (try clear hb); (try clear hb2); (try clear hk); (try clear hi)))
   go_ret
   exact ⟨by first | rfl | (simp [errW_none, errW_some] <;> rfl) | (simp [*, errW_none, errW_some] <;> rfl), bf_ HB⟩
  ·rw [if_neg c4] at H
   have c4b0 : decide (a1 < (l0_1.length : Int)) = false := decide_eq_false c4
   clear c4
   obtain rfl := Option.some.inj H
   go_enter Try.func65, Try.ntmps65
   go_wp2_with (first | ((with_reducible refine gd_ 2 rfl ?_); (try (refine gate_guard (by rfl) ?_; dsimp only)); refine bv_ 2 #[.int .i64 a0_0, .slice A0_1 l0_1.length c0_1] 24 ?_; intro gb245 hg w9 hbox hb; have BK245 := Aside0.mk (hbox); have GW245 := gw_ HB hg; have GE245 := gw_ HB hg; replace HB := Aside0.mk (below_step (be_ HB) hb); clear hb hbox hg; obtain ⟨hcz10_0, hcz10_1, hfz10_0, hfz10_1⟩ := bz2_ BK245))
   go_ret
   exact ⟨by first | rfl | (simp [errW_none, errW_some] <;> rfl) | (simp [*, errW_none, errW_some] <;> rfl), bf_ HB⟩
 ·rw [if_neg c3] at H
  have c3b0 : decide (0 ≤ a1) = false := decide_eq_false c3
  clear c3
  obtain rfl := Option.some.inj H
  go_enter Try.func65, Try.ntmps65
  go_wp2_with (first | ((with_reducible refine gd_ 2 rfl ?_); (try (refine gate_guard (by rfl) ?_; dsimp only)); refine bv_ 2 #[.int .i64 a0_0, .slice A0_1 l0_1.length c0_1] 24 ?_; intro gb245 hg w11 hbox hb; have BK245 := Aside0.mk (hbox); have GW245 := gw_ HB hg; have GE245 := gw_ HB hg; replace HB := Aside0.mk (below_step (be_ HB) hb); clear hb hbox hg))
  go_ret
  exact ⟨by first | rfl | (simp [errW_none, errW_some] <;> rfl) | (simp [*, errW_none, errW_some] <;> rfl), bf_ HB⟩

end Go.Proofs.Ytaglpjlapfocfaa.PFnExactStorePut
