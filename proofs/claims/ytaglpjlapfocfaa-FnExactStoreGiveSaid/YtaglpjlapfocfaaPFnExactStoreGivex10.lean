-- printed by a program of this session (wip/printx) out of the translation; Lean checks it
import Derived.Test.YtaglpjlapfocfaaPFnExactStoreGivex0
import Derived.Test.YtaglpjlapfocfaaPFnExactStoreGivex1
import Derived.Test.YtaglpjlapfocfaaPFnExactStoreGivex2
import Derived.Test.YtaglpjlapfocfaaPFnExactStoreGivex6
import Derived.Test.YtaglpjlapfocfaaPFnExactStoreGivex9
namespace Go.Proofs.Ytaglpjlapfocfaa.PFnExactStoreGive
open Go.RowKit Go.Proofs.YtaglpjlapfocfaaW.PrintWords Go.Proofs.YtaglpjlapfocfaaW.PrintLast Go.Proofs.YtaglpjlapfocfaaW.PrintMore
attribute [local go_sem] max2_int min2_int max_two min_two max_three min_three max_four min_four   -- for this text's walks alone
set_option linter.unusedVariables false
set_option linter.unusedSimpArgs false

/-! ### laws_FnExactStoreGive: function 15 -/
mutual
def laws_FnExactStoreGive.j0 : Nat → Int → Int → Int → Bool → Int → List Int → List Int → Int → List Int → List Int → Int → List Int → List Int → Int → List Int → List Int → Option (Bool)
  | 0, _, _, _, _, _, _, _, _, _, _, _, _, _, _, _, _ => none
  | k + 1, x1, x7, x10, x44, x291000, x291001, x291002, x308000, x308001, x308002, x316000, x316001, x316002, x325000, x325001, x325002 => if x44 = true then (some false) else ((laws_toStore.f k x291000 x291001 x291002).bind fun bt326 => ((laws_eqStore.f k x316000 x316001 x316002 bt326.1 bt326.2.1 bt326.2.2).bind fun t333 => (if t333 = true then ((laws_markStore.f k x316000 x316001 x316002 1).bind fun bt334 => (if bt334.1 < 0 then (laws_FnExactStoreGive.j1 k x1 x7 true x291000 x291001 x291002 x308000 x308001 x308002 x325000 x325001 x325002) else ((laws_eqStore.f k x325000 x325001 x325002 x308000 x308001 x308002).bind fun t337 => (if t337 = true then (laws_FnExactStoreGive.j1 k x1 x7 (x10 != x7) x291000 x291001 x291002 x308000 x308001 x308002 x325000 x325001 x325002) else (laws_FnExactStoreGive.j1 k x1 x7 true x291000 x291001 x291002 x308000 x308001 x308002 x325000 x325001 x325002))))) else (some false))))
def laws_FnExactStoreGive.j1 : Nat → Int → Int → Bool → Int → List Int → List Int → Int → List Int → List Int → Int → List Int → List Int → Option (Bool)
  | 0, _, _, _, _, _, _, _, _, _, _, _, _ => none
  | k + 1, x1, x7, x65, x291000, x291001, x291002, x308000, x308001, x308002, x325000, x325001, x325002 => if x65 = true then (some false) else ((laws_markStore.f k x325000 x325001 x325002 1).bind fun bt338 => ((laws_heldStore.f k x325000 bt338.2.1 bt338.2.2 1).bind fun t341 => (if t341 < 0 then (some false) else (if t341 = bt338.1 then ((laws_toStore.f k x291000 x291001 x291002).bind fun bt342 => ((impl_StoreGive.f k bt342.1 bt342.2.1 bt342.2.2 x1).bind fun bt349 => ((laws_eqStore.f k bt349.1 bt349.2.1 bt349.2.2.1 x308000 x308001 x308002).bind fun t358 => (if t358 = true then (laws_FnExactStoreGive.j2 k bt338.1 (bt349.2.2.2 != x7) x325000 bt338.2.1 bt338.2.2) else (laws_FnExactStoreGive.j2 k bt338.1 true x325000 bt338.2.1 bt338.2.2))))) else (some false)))))
def laws_FnExactStoreGive.j2 : Nat → Int → Bool → Int → List Int → List Int → Option (Bool)
  | 0, _, _, _, _, _ => none
  | k + 1, x12, x92, x325000, x325001, x325002 => if x92 = true then (some false) else ((laws_heldStore.f k x325000 x325001 x325002 1).bind fun t359 => (if t359 < 0 then (some false) else (if t359 = x12 then (some true) else (some false))))
end
def laws_FnExactStoreGive.f (k : Nat) (a0_0 : Int) (l0_1 : List Int) (l0_2 : List Int) (a1 : Int) : Option (Bool) := (laws_szStore.f a0_0 l0_1 l0_2 1048576).bind fun t291 => (if t291 < 0 then (some true) else ((laws_toStore.f k a0_0 l0_1 l0_2).bind fun bt292 => ((spec_StoreGive.f k bt292.1 bt292.2.1 bt292.2.2 a1).bind fun bt299 => ((laws_toStore.f k a0_0 l0_1 l0_2).bind fun bt308 => ((impl_StoreGive.f k bt308.1 bt308.2.1 bt308.2.2 a1).bind fun bt316 => ((laws_eqStore.f k bt316.1 bt316.2.1 bt316.2.2.1 bt299.1 bt299.2.1 bt299.2.2.1).bind fun t325 => (if t325 = true then (laws_FnExactStoreGive.j0 k a1 bt299.2.2.2 bt316.2.2.2 (bt316.2.2.2 != bt299.2.2.2) a0_0 l0_1 l0_2 bt299.1 bt299.2.1 bt299.2.2.1 bt308.1 bt308.2.1 bt308.2.2 bt316.1 bt316.2.1 bt316.2.2.1) else (laws_FnExactStoreGive.j0 k a1 bt299.2.2.2 bt316.2.2.2 true a0_0 l0_1 l0_2 bt299.1 bt299.2.1 bt299.2.2.1 bt308.1 bt308.2.1 bt308.2.2 bt316.1 bt316.2.1 bt316.2.2.1))))))))
theorem laws_FnExactStoreGive.mono_l : ∀ k, (∀ y0 y1 y2 y3 y4 y5 y6 y7 y8 y9 y10 y11 y12 y13 y14 y15, LeO (laws_FnExactStoreGive.j0 k y0 y1 y2 y3 y4 y5 y6 y7 y8 y9 y10 y11 y12 y13 y14 y15) (laws_FnExactStoreGive.j0 (k + 1) y0 y1 y2 y3 y4 y5 y6 y7 y8 y9 y10 y11 y12 y13 y14 y15)) ∧ (∀ y0 y1 y2 y3 y4 y5 y6 y7 y8 y9 y10 y11, LeO (laws_FnExactStoreGive.j1 k y0 y1 y2 y3 y4 y5 y6 y7 y8 y9 y10 y11) (laws_FnExactStoreGive.j1 (k + 1) y0 y1 y2 y3 y4 y5 y6 y7 y8 y9 y10 y11)) ∧ (∀ y0 y1 y2 y3 y4, LeO (laws_FnExactStoreGive.j2 k y0 y1 y2 y3 y4) (laws_FnExactStoreGive.j2 (k + 1) y0 y1 y2 y3 y4))
 | 0 => ⟨fun _ _ _ _ _ _ _ _ _ _ _ _ _ _ _ _ r h => by simp [laws_FnExactStoreGive.j0] at h, fun _ _ _ _ _ _ _ _ _ _ _ _ r h => by simp [laws_FnExactStoreGive.j1] at h, fun _ _ _ _ _ r h => by simp [laws_FnExactStoreGive.j2] at h⟩
 | k + 1 => by
  obtain ⟨ih0, ih1, ih2⟩ := laws_FnExactStoreGive.mono_l k
  refine ⟨?_, ?_, ?_⟩
  ·intro y0 y1 y2 y3 y4 y5 y6 y7 y8 y9 y10 y11 y12 y13 y14 y15
   unfold laws_FnExactStoreGive.j0
   repeat' first
   | (with_reducible exact ih0 _ _ _ _ _ _ _ _ _ _ _ _ _ _ _ _)
   | (with_reducible exact ih1 _ _ _ _ _ _ _ _ _ _ _ _)
   | (with_reducible exact ih2 _ _ _ _ _)
   | (with_reducible exact impl_StoreGive.mono _ _ _ _ _)
   | (with_reducible exact laws_eqStore.mono _ _ _ _ _ _ _)
   | (with_reducible exact laws_heldStore.mono _ _ _ _ _)
   | (with_reducible exact laws_markStore.mono _ _ _ _ _)
   | (with_reducible exact laws_toStore.mono _ _ _ _)
   | (with_reducible exact spec_StoreGive.mono _ _ _ _ _)
   | (with_reducible exact LeO.refl _)
   | (with_reducible exact LeO.none _)
   | (with_reducible refine LeO.ite ?_ ?_)
   | (with_reducible refine LeO.bind ?_ (fun _ => ?_))
   | exact ih0 _ _ _ _ _ _ _ _ _ _ _ _ _ _ _ _
   | exact ih1 _ _ _ _ _ _ _ _ _ _ _ _
   | exact ih2 _ _ _ _ _
   | exact impl_StoreGive.mono _ _ _ _ _
   | exact laws_eqStore.mono _ _ _ _ _ _ _
   | exact laws_heldStore.mono _ _ _ _ _
   | exact laws_markStore.mono _ _ _ _ _
   | exact laws_toStore.mono _ _ _ _
   | exact spec_StoreGive.mono _ _ _ _ _
   | exact LeO.none _
   | refine LeO.ite ?_ ?_
   | refine LeO.bind ?_ (fun _ => ?_)
  ·intro y0 y1 y2 y3 y4 y5 y6 y7 y8 y9 y10 y11
   unfold laws_FnExactStoreGive.j1
   repeat' first
   | (with_reducible exact ih0 _ _ _ _ _ _ _ _ _ _ _ _ _ _ _ _)
   | (with_reducible exact ih1 _ _ _ _ _ _ _ _ _ _ _ _)
   | (with_reducible exact ih2 _ _ _ _ _)
   | (with_reducible exact impl_StoreGive.mono _ _ _ _ _)
   | (with_reducible exact laws_eqStore.mono _ _ _ _ _ _ _)
   | (with_reducible exact laws_heldStore.mono _ _ _ _ _)
   | (with_reducible exact laws_markStore.mono _ _ _ _ _)
   | (with_reducible exact laws_toStore.mono _ _ _ _)
   | (with_reducible exact spec_StoreGive.mono _ _ _ _ _)
   | (with_reducible exact LeO.refl _)
   | (with_reducible exact LeO.none _)
   | (with_reducible refine LeO.ite ?_ ?_)
   | (with_reducible refine LeO.bind ?_ (fun _ => ?_))
   | exact ih0 _ _ _ _ _ _ _ _ _ _ _ _ _ _ _ _
   | exact ih1 _ _ _ _ _ _ _ _ _ _ _ _
   | exact ih2 _ _ _ _ _
   | exact impl_StoreGive.mono _ _ _ _ _
   | exact laws_eqStore.mono _ _ _ _ _ _ _
   | exact laws_heldStore.mono _ _ _ _ _
   | exact laws_markStore.mono _ _ _ _ _
   | exact laws_toStore.mono _ _ _ _
   | exact spec_StoreGive.mono _ _ _ _ _
   | exact LeO.none _
   | refine LeO.ite ?_ ?_
   | refine LeO.bind ?_ (fun _ => ?_)
  ·intro y0 y1 y2 y3 y4
   unfold laws_FnExactStoreGive.j2
   repeat' first
   | (with_reducible exact ih0 _ _ _ _ _ _ _ _ _ _ _ _ _ _ _ _)
   | (with_reducible exact ih1 _ _ _ _ _ _ _ _ _ _ _ _)
   | (with_reducible exact ih2 _ _ _ _ _)
   | (with_reducible exact impl_StoreGive.mono _ _ _ _ _)
   | (with_reducible exact laws_eqStore.mono _ _ _ _ _ _ _)
   | (with_reducible exact laws_heldStore.mono _ _ _ _ _)
   | (with_reducible exact laws_markStore.mono _ _ _ _ _)
   | (with_reducible exact laws_toStore.mono _ _ _ _)
   | (with_reducible exact spec_StoreGive.mono _ _ _ _ _)
   | (with_reducible exact LeO.refl _)
   | (with_reducible exact LeO.none _)
   | (with_reducible refine LeO.ite ?_ ?_)
   | (with_reducible refine LeO.bind ?_ (fun _ => ?_))
   | exact ih0 _ _ _ _ _ _ _ _ _ _ _ _ _ _ _ _
   | exact ih1 _ _ _ _ _ _ _ _ _ _ _ _
   | exact ih2 _ _ _ _ _
   | exact impl_StoreGive.mono _ _ _ _ _
   | exact laws_eqStore.mono _ _ _ _ _ _ _
   | exact laws_heldStore.mono _ _ _ _ _
   | exact laws_markStore.mono _ _ _ _ _
   | exact laws_toStore.mono _ _ _ _
   | exact spec_StoreGive.mono _ _ _ _ _
   | exact LeO.none _
   | refine LeO.ite ?_ ?_
   | refine LeO.bind ?_ (fun _ => ?_)
theorem laws_FnExactStoreGive.mono : ∀ a0 a1 a2 a3 k, LeO (laws_FnExactStoreGive.f k a0 a1 a2 a3) (laws_FnExactStoreGive.f (k + 1) a0 a1 a2 a3) := by
 intro a0 a1 a2 a3 k
 obtain ⟨ih0, ih1, ih2⟩ := laws_FnExactStoreGive.mono_l k
 unfold laws_FnExactStoreGive.f
 repeat' first
   | (with_reducible exact ih0 _ _ _ _ _ _ _ _ _ _ _ _ _ _ _ _)
   | (with_reducible exact ih1 _ _ _ _ _ _ _ _ _ _ _ _)
   | (with_reducible exact ih2 _ _ _ _ _)
   | (with_reducible exact impl_StoreGive.mono _ _ _ _ _)
   | (with_reducible exact laws_eqStore.mono _ _ _ _ _ _ _)
   | (with_reducible exact laws_heldStore.mono _ _ _ _ _)
   | (with_reducible exact laws_markStore.mono _ _ _ _ _)
   | (with_reducible exact laws_toStore.mono _ _ _ _)
   | (with_reducible exact spec_StoreGive.mono _ _ _ _ _)
   | (with_reducible exact LeO.refl _)
   | (with_reducible exact LeO.none _)
   | (with_reducible refine LeO.ite ?_ ?_)
   | (with_reducible refine LeO.bind ?_ (fun _ => ?_))
   | exact ih0 _ _ _ _ _ _ _ _ _ _ _ _ _ _ _ _
   | exact ih1 _ _ _ _ _ _ _ _ _ _ _ _
   | exact ih2 _ _ _ _ _
   | exact impl_StoreGive.mono _ _ _ _ _
   | exact laws_eqStore.mono _ _ _ _ _ _ _
   | exact laws_heldStore.mono _ _ _ _ _
   | exact laws_markStore.mono _ _ _ _ _
   | exact laws_toStore.mono _ _ _ _
   | exact spec_StoreGive.mono _ _ _ _ _
   | exact LeO.none _
   | refine LeO.ite ?_ ?_
   | refine LeO.bind ?_ (fun _ => ?_)
set_option maxHeartbeats 8000000 in
set_option maxRecDepth 100000 in
theorem laws_FnExactStoreGive.calls (k : Nat) (a0_0 : Int) (A0_1 : Option Addr) (c0_1 : Nat) (l0_1 : List Int) (A0_2 : Option Addr) (c0_2 : Nat) (l0_2 : List Int) (a1 : Int) (r : Bool) (w : World) (hr0_1 : Kd.C (Kd.int .i64) w A0_1 l0_1.length l0_1) (hc0_1 : l0_1.length ≤ c0_1) (hr0_2 : Kd.C (Kd.int .u8) w A0_2 l0_2.length l0_2) (hc0_2 : l0_2.length ≤ c0_2) (h : laws_FnExactStoreGive.f k a0_0 l0_1 l0_2 a1 = some r) :
  Calls Try.prog 15 #[.agg #[.int .i64 a0_0, .slice A0_1 l0_1.length c0_1, .slice A0_2 l0_2.length c0_2], .int .i64 a1] w fun e w' => e = .returned (.bool r) ∧ Below w.heap.size w w' := by
 have hu46 := Try.underlying46
 have hu36 := Try.underlying36
 have HR0_1 := Aside0.mk hr0_1
 have HC0_1 := Aside0.mk hc0_1
 clear hr0_1 hc0_1
 have HR0_2 := Aside0.mk hr0_2
 have HC0_2 := Aside0.mk hc0_2
 clear hr0_2 hc0_2
 have HB := Aside0.mk (Below.refl w.heap.size w)
 have H : ((laws_szStore.f a0_0 l0_1 l0_2 1048576).bind fun t291 => (if t291 < 0 then (some true) else ((laws_toStore.f k a0_0 l0_1 l0_2).bind fun bt292 => ((spec_StoreGive.f k bt292.1 bt292.2.1 bt292.2.2 a1).bind fun bt299 => ((laws_toStore.f k a0_0 l0_1 l0_2).bind fun bt308 => ((impl_StoreGive.f k bt308.1 bt308.2.1 bt308.2.2 a1).bind fun bt316 => ((laws_eqStore.f k bt316.1 bt316.2.1 bt316.2.2.1 bt299.1 bt299.2.1 bt299.2.2.1).bind fun t325 => (if t325 = true then (laws_FnExactStoreGive.j0 k a1 bt299.2.2.2 bt316.2.2.2 (bt316.2.2.2 != bt299.2.2.2) a0_0 l0_1 l0_2 bt299.1 bt299.2.1 bt299.2.2.1 bt308.1 bt308.2.1 bt308.2.2 bt316.1 bt316.2.1 bt316.2.2.1) else (laws_FnExactStoreGive.j0 k a1 bt299.2.2.2 bt316.2.2.2 true a0_0 l0_1 l0_2 bt299.1 bt299.2.1 bt299.2.2.1 bt308.1 bt308.2.1 bt308.2.2 bt316.1 bt316.2.1 bt316.2.2.1))))))))) = some r := h
 clear h
 replace H := Option.bind_eq_some_iff.mp H
 obtain ⟨t291, A30, H⟩ := H
 replace H : (if t291 < 0 then (some true) else ((laws_toStore.f k a0_0 l0_1 l0_2).bind fun bt292 => ((spec_StoreGive.f k bt292.1 bt292.2.1 bt292.2.2 a1).bind fun bt299 => ((laws_toStore.f k a0_0 l0_1 l0_2).bind fun bt308 => ((impl_StoreGive.f k bt308.1 bt308.2.1 bt308.2.2 a1).bind fun bt316 => ((laws_eqStore.f k bt316.1 bt316.2.1 bt316.2.2.1 bt299.1 bt299.2.1 bt299.2.2.1).bind fun t325 => (if t325 = true then (laws_FnExactStoreGive.j0 k a1 bt299.2.2.2 bt316.2.2.2 (bt316.2.2.2 != bt299.2.2.2) a0_0 l0_1 l0_2 bt299.1 bt299.2.1 bt299.2.2.1 bt308.1 bt308.2.1 bt308.2.2 bt316.1 bt316.2.1 bt316.2.2.1) else (laws_FnExactStoreGive.j0 k a1 bt299.2.2.2 bt316.2.2.2 true a0_0 l0_1 l0_2 bt299.1 bt299.2.1 bt299.2.2.1 bt308.1 bt308.2.1 bt308.2.2 bt316.1 bt316.2.1 bt316.2.2.1)))))))) = some r := H
 have A3 := Aside0.mk A30
 clear A30
 by_cases c4 : t291 < 0
 ·rw [if_pos c4] at H
  have c4b0 : decide (t291 < 0) = true := decide_eq_true c4
  clear c4
  obtain rfl := Option.some.inj H
  go_enter Try.func15, Try.ntmps15
  go_wp2_with (first | ((with_reducible refine gate_dst (N := 2) rfl ?_); refine box_event ?hg (N := 2) ?hd (cs := #[.int .i64 a0_0, .slice A0_1 l0_1.length c0_1, .slice A0_2 l0_2.length c0_2]) (t := 46) ?hr ?_; (case hd => rfl); (case hg => rfl); (case hr => first | (go_simp; done) | (go_simp; rfl)); intro gb290 hg w5 hbox hb; have n0_ := Aside0.mk (below_step (be_ HB) hb); have n1_ := Aside0.mk (hbox); have n2_ := Aside0.mk ((by rw [hg]; exact (below_size (be_ HB)) : w.heap.size ≤ gb290)); have n3_ := Aside0.mk ((by rw [hg]; exact (below_size (be_ HB)) : w.heap.size ≤ gb290)); clear HB; have HB := n0_; have BK290 := n1_; have GW290 := n2_; have GE290 := n3_; clear n0_ n1_ n2_ n3_; clear hb hbox hg; have hcz6_0 : w5.cell? ⟨gb290, 0, none⟩ = some (.int .i64 a0_0) := (blk_cell BK290.out 0).trans rfl; have hcz6_1 : w5.cell? ⟨gb290, 1, none⟩ = some (.slice A0_1 l0_1.length c0_1) := (blk_cell BK290.out 1).trans rfl; have hcz6_2 : w5.cell? ⟨gb290, 2, none⟩ = some (.slice A0_2 l0_2.length c0_2) := (blk_cell BK290.out 2).trans rfl; have hfz6_0 := blk_frozen BK290.out 0; have hfz6_1 := blk_frozen BK290.out 1; have hfz6_2 := blk_frozen BK290.out 2) | ((with_reducible refine gate_callee (f := 38) rfl ?_); refine goesL_ (some 18) rfl rfl Try.func38 (by kernel_rfl) rfl #[.agg #[.int .i64 a0_0, .slice A0_1 l0_1.length c0_1, .slice A0_2 l0_2.length c0_2], .int .i64 1048576] rfl mt_ ?_; (with_reducible refine (laws_szStore.calls a0_0 _ _ l0_1 _ _ l0_2 1048576 t291 _ ?side1 ?side2 ?side3 ?side4 A3.out).mono ?_); (case side1 => repeat (first | exact (Kd.C_below HR0_1.out HB.out) | (with_reducible refine Kd.C_alloc ?_ _) | (with_reducible refine Kd.C_drewN ?_ _) | (with_reducible refine Kd.C_drew ?_))); (case side2 => exact HC0_1.out); (case side3 => repeat (first | exact (Kd.C_below HR0_2.out HB.out) | (with_reducible refine Kd.C_alloc ?_ _) | (with_reducible refine Kd.C_drewN ?_ _) | (with_reducible refine Kd.C_drew ?_))); (case side4 => exact HC0_2.out); rintro e w7 ⟨rfl, hb⟩; refine ⟨_, rfl, ?_⟩; have n0_ := Aside0.mk (blk_below (g := gb290) (o := .cells #[.int .i64 a0_0, .slice A0_1 l0_1.length c0_1, .slice A0_2 l0_2.length c0_2] 46 (0, 0)) (bk_ BK290) hb); have n1_ := Aside0.mk (below_step (by repeat (first | (with_reducible first | exact HB.out | apply below_alloc | apply pw_below_drewN | apply below_drew1 | refine below_set ?_ GE290.out) | exact HB.out)) hb); clear BK290; clear HB; have BK290 := n0_; have HB := n1_; clear n0_ n1_; (try clear hb); (try clear hb2); (try clear hk); (try clear hi)))
  go_ret
  exact ⟨by first | rfl | (simp [errW_none, errW_some] <;> rfl) | (simp [*, errW_none, errW_some] <;> rfl), by repeat (first | (with_reducible first | exact HB.out | apply below_alloc | apply pw_below_drewN | apply below_drew1 | refine below_set ?_ GE290.out) | exact HB.out)⟩
 ·rw [if_neg c4] at H
  have c4b0 : decide (t291 < 0) = false := decide_eq_false c4
  clear c4
  replace H := Option.bind_eq_some_iff.mp H
  obtain ⟨⟨t292, t293, t296⟩, A80, H⟩ := H
  replace H : ((spec_StoreGive.f k t292 t293 t296 a1).bind fun bt299 => ((laws_toStore.f k a0_0 l0_1 l0_2).bind fun bt308 => ((impl_StoreGive.f k bt308.1 bt308.2.1 bt308.2.2 a1).bind fun bt316 => ((laws_eqStore.f k bt316.1 bt316.2.1 bt316.2.2.1 bt299.1 bt299.2.1 bt299.2.2.1).bind fun t325 => (if t325 = true then (laws_FnExactStoreGive.j0 k a1 bt299.2.2.2 bt316.2.2.2 (bt316.2.2.2 != bt299.2.2.2) a0_0 l0_1 l0_2 bt299.1 bt299.2.1 bt299.2.2.1 bt308.1 bt308.2.1 bt308.2.2 bt316.1 bt316.2.1 bt316.2.2.1) else (laws_FnExactStoreGive.j0 k a1 bt299.2.2.2 bt316.2.2.2 true a0_0 l0_1 l0_2 bt299.1 bt299.2.1 bt299.2.2.1 bt308.1 bt308.2.1 bt308.2.2 bt316.1 bt316.2.1 bt316.2.2.1)))))) = some r := H
  have A8 := Aside0.mk A80
  clear A80
  replace H := Option.bind_eq_some_iff.mp H
  obtain ⟨⟨t299, t300, t303, t306⟩, A90, H⟩ := H
  replace H : ((laws_toStore.f k a0_0 l0_1 l0_2).bind fun bt308 => ((impl_StoreGive.f k bt308.1 bt308.2.1 bt308.2.2 a1).bind fun bt316 => ((laws_eqStore.f k bt316.1 bt316.2.1 bt316.2.2.1 t299 t300 t303).bind fun t325 => (if t325 = true then (laws_FnExactStoreGive.j0 k a1 t306 bt316.2.2.2 (bt316.2.2.2 != t306) a0_0 l0_1 l0_2 t299 t300 t303 bt308.1 bt308.2.1 bt308.2.2 bt316.1 bt316.2.1 bt316.2.2.1) else (laws_FnExactStoreGive.j0 k a1 t306 bt316.2.2.2 true a0_0 l0_1 l0_2 t299 t300 t303 bt308.1 bt308.2.1 bt308.2.2 bt316.1 bt316.2.1 bt316.2.2.1))))) = some r := H
  have A9 := Aside0.mk A90
  clear A90
  replace H := Option.bind_eq_some_iff.mp H
  obtain ⟨⟨t308, t309, t312⟩, A100, H⟩ := H
  replace H : ((impl_StoreGive.f k t308 t309 t312 a1).bind fun bt316 => ((laws_eqStore.f k bt316.1 bt316.2.1 bt316.2.2.1 t299 t300 t303).bind fun t325 => (if t325 = true then (laws_FnExactStoreGive.j0 k a1 t306 bt316.2.2.2 (bt316.2.2.2 != t306) a0_0 l0_1 l0_2 t299 t300 t303 t308 t309 t312 bt316.1 bt316.2.1 bt316.2.2.1) else (laws_FnExactStoreGive.j0 k a1 t306 bt316.2.2.2 true a0_0 l0_1 l0_2 t299 t300 t303 t308 t309 t312 bt316.1 bt316.2.1 bt316.2.2.1)))) = some r := H
  have A10 := Aside0.mk A100
  clear A100
  replace H := Option.bind_eq_some_iff.mp H
  obtain ⟨⟨t316, t317, t320, t323⟩, A110, H⟩ := H
  replace H : ((laws_eqStore.f k t316 t317 t320 t299 t300 t303).bind fun t325 => (if t325 = true then (laws_FnExactStoreGive.j0 k a1 t306 t323 (t323 != t306) a0_0 l0_1 l0_2 t299 t300 t303 t308 t309 t312 t316 t317 t320) else (laws_FnExactStoreGive.j0 k a1 t306 t323 true a0_0 l0_1 l0_2 t299 t300 t303 t308 t309 t312 t316 t317 t320))) = some r := H
  have A11 := Aside0.mk A110
  clear A110
  have HC12 := Aside0.mk H
  clear H
  go_enter Try.func15, Try.ntmps15
  go_upto_region 8 with (first | ((with_reducible refine gate_dst (N := 2) rfl ?_); refine box_event ?hg (N := 2) ?hd (cs := #[.int .i64 a0_0, .slice A0_1 l0_1.length c0_1, .slice A0_2 l0_2.length c0_2]) (t := 46) ?hr ?_; (case hd => rfl); (case hg => rfl); (case hr => first | (go_simp; done) | (go_simp; rfl)); intro gb290 hg w13 hbox hb; have n0_ := Aside0.mk (below_step (be_ HB) hb); have n1_ := Aside0.mk (hbox); have n2_ := Aside0.mk ((by rw [hg]; exact (below_size (be_ HB)) : w.heap.size ≤ gb290)); have n3_ := Aside0.mk ((by rw [hg]; exact (below_size (be_ HB)) : w.heap.size ≤ gb290)); clear HB; have HB := n0_; have BK290 := n1_; have GW290 := n2_; have GE290 := n3_; clear n0_ n1_ n2_ n3_; clear hb hbox hg; have hcz14_0 : w13.cell? ⟨gb290, 0, none⟩ = some (.int .i64 a0_0) := (blk_cell BK290.out 0).trans rfl; have hcz14_1 : w13.cell? ⟨gb290, 1, none⟩ = some (.slice A0_1 l0_1.length c0_1) := (blk_cell BK290.out 1).trans rfl; have hcz14_2 : w13.cell? ⟨gb290, 2, none⟩ = some (.slice A0_2 l0_2.length c0_2) := (blk_cell BK290.out 2).trans rfl; have hfz14_0 := blk_frozen BK290.out 0; have hfz14_1 := blk_frozen BK290.out 1; have hfz14_2 := blk_frozen BK290.out 2) | ((with_reducible refine gate_callee (f := 38) rfl ?_); refine goesL_ (some 18) rfl rfl Try.func38 (by kernel_rfl) rfl #[.agg #[.int .i64 a0_0, .slice A0_1 l0_1.length c0_1, .slice A0_2 l0_2.length c0_2], .int .i64 1048576] rfl mt_ ?_; (with_reducible refine (laws_szStore.calls a0_0 _ _ l0_1 _ _ l0_2 1048576 t291 _ ?side1 ?side2 ?side3 ?side4 A3.out).mono ?_); (case side1 => repeat (first | exact (Kd.C_below HR0_1.out HB.out) | (with_reducible refine Kd.C_alloc ?_ _) | (with_reducible refine Kd.C_drewN ?_ _) | (with_reducible refine Kd.C_drew ?_))); (case side2 => exact HC0_1.out); (case side3 => repeat (first | exact (Kd.C_below HR0_2.out HB.out) | (with_reducible refine Kd.C_alloc ?_ _) | (with_reducible refine Kd.C_drewN ?_ _) | (with_reducible refine Kd.C_drew ?_))); (case side4 => exact HC0_2.out); rintro e w15 ⟨rfl, hb⟩; refine ⟨_, rfl, ?_⟩; have n0_ := Aside0.mk (blk_below (g := gb290) (o := .cells #[.int .i64 a0_0, .slice A0_1 l0_1.length c0_1, .slice A0_2 l0_2.length c0_2] 46 (0, 0)) (bk_ BK290) hb); have n1_ := Aside0.mk (below_step (by repeat (first | (with_reducible first | exact HB.out | apply below_alloc | apply pw_below_drewN | apply below_drew1 | refine below_set ?_ GE290.out) | exact HB.out)) hb); clear BK290; clear HB; have BK290 := n0_; have HB := n1_; clear n0_ n1_; (try clear hb); (try clear hb2); (try clear hk); (try clear hi); have hcz16_0 : w15.cell? ⟨gb290, 0, none⟩ = some (.int .i64 a0_0) := (blk_cell BK290.out 0).trans rfl; have hcz16_1 : w15.cell? ⟨gb290, 1, none⟩ = some (.slice A0_1 l0_1.length c0_1) := (blk_cell BK290.out 1).trans rfl; have hcz16_2 : w15.cell? ⟨gb290, 2, none⟩ = some (.slice A0_2 l0_2.length c0_2) := (blk_cell BK290.out 2).trans rfl; have hfz16_0 := blk_frozen BK290.out 0; have hfz16_1 := blk_frozen BK290.out 1; have hfz16_2 := blk_frozen BK290.out 2) | ((with_reducible refine gate_callee (f := 40) rfl ?_); refine goesL_ (some 23) rfl rfl Try.func40 (by kernel_rfl) rfl #[.agg #[.int .i64 a0_0, .slice A0_1 l0_1.length c0_1, .slice A0_2 l0_2.length c0_2]] rfl mt_ ?_; (with_reducible refine (laws_toStore.calls k a0_0 _ _ l0_1 _ _ l0_2 t292 t293 t296 _ ?side1 ?side2 ?side3 ?side4 A8.out).mono ?_); (case side1 => repeat (first | exact (Kd.C_below HR0_1.out HB.out) | (with_reducible refine Kd.C_alloc ?_ _) | (with_reducible refine Kd.C_drewN ?_ _) | (with_reducible refine Kd.C_drew ?_))); (case side2 => exact HC0_1.out); (case side3 => repeat (first | exact (Kd.C_below HR0_2.out HB.out) | (with_reducible refine Kd.C_alloc ?_ _) | (with_reducible refine Kd.C_drewN ?_ _) | (with_reducible refine Kd.C_drew ?_))); (case side4 => exact HC0_2.out); rintro e w17 ⟨v294, v297, rfl, ho0, ho1, hb⟩; refine ⟨_, rfl, ?_⟩; have n0_ := Aside0.mk (Kd.R_lower ho0 (below_size (by repeat (first | (with_reducible first | exact HB.out | apply below_alloc | apply pw_below_drewN | apply below_drew1 | refine below_set ?_ GE290.out) | exact HB.out)))); have n1_ := Aside0.mk (Kd.R_lower ho1 (below_size (by repeat (first | (with_reducible first | exact HB.out | apply below_alloc | apply pw_below_drewN | apply below_drew1 | refine below_set ?_ GE290.out) | exact HB.out)))); have n2_ := Aside0.mk (blk_below (g := gb290) (o := .cells #[.int .i64 a0_0, .slice A0_1 l0_1.length c0_1, .slice A0_2 l0_2.length c0_2] 46 (0, 0)) (bk_ BK290) hb); have n3_ := Aside0.mk (below_step (by repeat (first | (with_reducible first | exact HB.out | apply below_alloc | apply pw_below_drewN | apply below_drew1 | refine below_set ?_ GE290.out) | exact HB.out)) hb); clear BK290; clear HB; have HO295 := n0_; have HO298 := n1_; have BK290 := n2_; have HB := n3_; clear n0_ n1_ n2_ n3_; (try clear hb); (try clear hb2); (try clear hk); (try clear hi); (try clear ho0); (try clear ho1); obtain ⟨Ao18, co18, eo18⟩ := Kd.R_slice HO295.out; subst eo18; obtain ⟨Ao19, co19, eo19⟩ := Kd.R_slice HO298.out; subst eo19) | ((with_reducible refine gate_callee (f := 60) rfl ?_); refine goesL_ (some 25) rfl rfl Try.func60 (by kernel_rfl) rfl #[.agg #[.int .i64 t292, .slice Ao18 t293.length co18, .slice Ao19 t296.length co19], .int .i64 a1] rfl mt_ ?_; (with_reducible refine (spec_StoreGive.calls k t292 _ _ t293 _ _ t296 a1 t299 t300 t303 t306 _ ?side1 ?side2 ?side3 ?side4 A9.out).mono ?_); (case side1 => repeat (first | exact (Kd.R_reads' HO295.out).2.2 | (with_reducible refine Kd.C_alloc ?_ _) | (with_reducible refine Kd.C_drewN ?_ _) | (with_reducible refine Kd.C_drew ?_))); (case side2 => exact (Kd.R_reads' HO295.out).2.1); (case side3 => repeat (first | exact (Kd.R_reads' HO298.out).2.2 | (with_reducible refine Kd.C_alloc ?_ _) | (with_reducible refine Kd.C_drewN ?_ _) | (with_reducible refine Kd.C_drew ?_))); (case side4 => exact (Kd.R_reads' HO298.out).2.1); rintro e w20 ⟨v301, v304, rfl, ho0, ho1, hb⟩; refine ⟨_, rfl, ?_⟩; have n0_ := Aside0.mk (Kd.R_elder' (kr_ HO295) (Kd.R_base ho0) hb); have n1_ := Aside0.mk (Kd.R_elder' (kr_ HO298) (Kd.R_base ho1) hb); have n2_ := Aside0.mk (Kd.R_lower (Kd.R_new' ho0 (Kd.R_lt (kr_ HO295))) (below_size (by repeat (first | (with_reducible first | exact HB.out | apply below_alloc | apply pw_below_drewN | apply below_drew1 | refine below_set ?_ GE290.out) | exact HB.out)))); have n3_ := Aside0.mk (Kd.R_lower (Kd.R_new' ho1 (Kd.R_lt (kr_ HO298))) (below_size (by repeat (first | (with_reducible first | exact HB.out | apply below_alloc | apply pw_below_drewN | apply below_drew1 | refine below_set ?_ GE290.out) | exact HB.out)))); have n4_ := Aside0.mk (blk_below (g := gb290) (o := .cells #[.int .i64 a0_0, .slice A0_1 l0_1.length c0_1, .slice A0_2 l0_2.length c0_2] 46 (0, 0)) (bk_ BK290) hb); have n5_ := Aside0.mk (below_step (by repeat (first | (with_reducible first | exact HB.out | apply below_alloc | apply pw_below_drewN | apply below_drew1 | refine below_set ?_ GE290.out) | exact HB.out)) hb); clear HO295; clear HO298; clear BK290; clear HB; have HO295 := n0_; have HO298 := n1_; have HO302 := n2_; have HO305 := n3_; have BK290 := n4_; have HB := n5_; clear n0_ n1_ n2_ n3_ n4_ n5_; (try clear hb); (try clear hb2); (try clear hk); (try clear hi); (try clear ho0); (try clear ho1)) | ((with_reducible refine gate_dst (N := 6) rfl ?_); refine box_event ?hg (N := 6) ?hd (cs := #[.int .i64 0, .slice none 0 0, .slice none 0 0]) (t := 36) ?hr ?_; (case hd => rfl); (case hg => rfl); (case hr => first | (go_simp; done) | (go_simp; rfl)); intro gb307 hg w21 hbox hb; have n0_ := Aside0.mk (Kd.R_below (kr_ HO295) hb); have n1_ := Aside0.mk (Kd.R_below (kr_ HO298) hb); have n2_ := Aside0.mk (Kd.R_below (kr_ HO302) hb); have n3_ := Aside0.mk (Kd.R_below (kr_ HO305) hb); have n4_ := Aside0.mk (blk_below (g := gb290) (o := .cells #[.int .i64 a0_0, .slice A0_1 l0_1.length c0_1, .slice A0_2 l0_2.length c0_2] 46 (0, 0)) (bk_ BK290) hb); have n5_ := Aside0.mk (below_step (by repeat (first | (with_reducible first | exact HB.out | apply below_alloc | apply pw_below_drewN | apply below_drew1 | refine below_set ?_ GE290.out) | exact HB.out)) hb); have n6_ := Aside0.mk (hbox); have n7_ := Aside0.mk ((by rw [hg]; exact (below_size (by repeat (first | (with_reducible first | exact HB.out | apply below_alloc | apply pw_below_drewN | apply below_drew1 | refine below_set ?_ GE290.out) | exact HB.out))) : w.heap.size ≤ gb307)); have n8_ := Aside0.mk ((by rw [hg]; exact (below_size (by repeat (first | (with_reducible first | exact HB.out | apply below_alloc | apply pw_below_drewN | apply below_drew1 | refine below_set ?_ GE290.out) | exact HB.out))) : w.heap.size ≤ gb307)); have n9_ := Aside0.mk ((by rw [hg]; exact Nat.ne_of_lt (blk_lt (g := gb290) (o := .cells #[.int .i64 a0_0, .slice A0_1 l0_1.length c0_1, .slice A0_2 l0_2.length c0_2] 46 (0, 0)) (bk_ BK290)) : gb290 ≠ gb307)); have n10_ := Aside0.mk ((by rw [hg]; exact Nat.ne_of_gt (blk_lt (g := gb290) (o := .cells #[.int .i64 a0_0, .slice A0_1 l0_1.length c0_1, .slice A0_2 l0_2.length c0_2] 46 (0, 0)) (bk_ BK290)) : gb307 ≠ gb290)); clear HO295; clear HO298; clear HO302; clear HO305; clear BK290; clear HB; have HO295 := n0_; have HO298 := n1_; have HO302 := n2_; have HO305 := n3_; have BK290 := n4_; have HB := n5_; have BK307 := n6_; have GW307 := n7_; have GE307 := n8_; have NB290_307 := n9_; have NB307_290 := n10_; clear n0_ n1_ n2_ n3_ n4_ n5_ n6_ n7_ n8_ n9_ n10_; clear hb hbox hg; have hnb22 := NB307_290.out; have hnc22 := NB290_307.out; have hcz23_0 : w21.cell? ⟨gb307, 0, none⟩ = some (.int .i64 0) := (blk_cell BK307.out 0).trans rfl; have hcz23_1 : w21.cell? ⟨gb307, 1, none⟩ = some (.slice none 0 0) := (blk_cell BK307.out 1).trans rfl; have hcz23_2 : w21.cell? ⟨gb307, 2, none⟩ = some (.slice none 0 0) := (blk_cell BK307.out 2).trans rfl; have hfz23_0 := blk_frozen BK307.out 0; have hfz23_1 := blk_frozen BK307.out 1; have hfz23_2 := blk_frozen BK307.out 2; obtain ⟨Ao24, co24, eo24⟩ := Kd.R_slice HO302.out; subst eo24; obtain ⟨Ao25, co25, eo25⟩ := Kd.R_slice HO305.out; subst eo25; have hcz26_0 : w21.cell? ⟨gb290, 0, none⟩ = some (.int .i64 a0_0) := (blk_cell BK290.out 0).trans rfl; have hcz26_1 : w21.cell? ⟨gb290, 1, none⟩ = some (.slice A0_1 l0_1.length c0_1) := (blk_cell BK290.out 1).trans rfl; have hcz26_2 : w21.cell? ⟨gb290, 2, none⟩ = some (.slice A0_2 l0_2.length c0_2) := (blk_cell BK290.out 2).trans rfl; have hfz26_0 := blk_frozen BK290.out 0; have hfz26_1 := blk_frozen BK290.out 1; have hfz26_2 := blk_frozen BK290.out 2) | ((with_reducible refine gate_callee (f := 40) rfl ?_); refine goesL_ (some 29) rfl rfl Try.func40 (by kernel_rfl) rfl #[.agg #[.int .i64 a0_0, .slice A0_1 l0_1.length c0_1, .slice A0_2 l0_2.length c0_2]] rfl mt_ ?_; (with_reducible refine (laws_toStore.calls k a0_0 _ _ l0_1 _ _ l0_2 t308 t309 t312 _ ?side1 ?side2 ?side3 ?side4 A10.out).mono ?_); (case side1 => exact Kd.C_below HR0_1.out (by repeat (first | (with_reducible first | exact HB.out | apply below_alloc | apply pw_below_drewN | apply below_drew1 | refine below_set ?_ GE290.out | refine below_set ?_ GE307.out) | exact HB.out))); (case side2 => exact HC0_1.out); (case side3 => exact Kd.C_below HR0_2.out (by repeat (first | (with_reducible first | exact HB.out | apply below_alloc | apply pw_below_drewN | apply below_drew1 | refine below_set ?_ GE290.out | refine below_set ?_ GE307.out) | exact HB.out))); (case side4 => exact HC0_2.out); rintro e w27 ⟨v310, v313, rfl, ho0, ho1, hb⟩; refine ⟨_, rfl, ?_⟩; have n0_ := Aside0.mk (Kd.R_elder' (by (with_reducible repeat (first | apply Kd.R_alloc | apply Kd.R_drewN | apply Kd.R_drew)); exact (Kd.R_mono (Kd.R_far (p := ⟨gb307, 2, none⟩) (Kd.R_far (p := ⟨gb307, 1, none⟩) (Kd.R_far (p := ⟨gb307, 0, none⟩) (Kd.R_types HO295.out BK307.out (by decide)) (fun _ hk => by first | exact hk.2 | grind) (.int .i64 t299)) (fun _ hk => by first | exact hk.2 | grind) (.slice Ao24 t300.length co24)) (fun _ hk => by first | exact hk.2 | grind) (.slice Ao25 t303.length co25)) (fun _ h_ => h_.1))) (Kd.R_base ho0) hb); have n1_ := Aside0.mk (Kd.R_elder' (by (with_reducible repeat (first | apply Kd.R_alloc | apply Kd.R_drewN | apply Kd.R_drew)); exact (Kd.R_mono (Kd.R_far (p := ⟨gb307, 2, none⟩) (Kd.R_far (p := ⟨gb307, 1, none⟩) (Kd.R_far (p := ⟨gb307, 0, none⟩) (Kd.R_types HO298.out BK307.out (by decide)) (fun _ hk => by first | exact hk.2 | grind) (.int .i64 t299)) (fun _ hk => by first | exact hk.2 | grind) (.slice Ao24 t300.length co24)) (fun _ hk => by first | exact hk.2 | grind) (.slice Ao25 t303.length co25)) (fun _ h_ => h_.1))) (Kd.R_base ho1) hb); have n2_ := Aside0.mk (Kd.R_elder' (by (with_reducible repeat (first | apply Kd.R_alloc | apply Kd.R_drewN | apply Kd.R_drew)); exact (Kd.R_mono (Kd.R_far (p := ⟨gb307, 2, none⟩) (Kd.R_far (p := ⟨gb307, 1, none⟩) (Kd.R_far (p := ⟨gb307, 0, none⟩) (Kd.R_types HO302.out BK307.out (by decide)) (fun _ hk => by first | exact hk.2 | grind) (.int .i64 t299)) (fun _ hk => by first | exact hk.2 | grind) (.slice Ao24 t300.length co24)) (fun _ hk => by first | exact hk.2 | grind) (.slice Ao25 t303.length co25)) (fun _ h_ => h_.1))) (Kd.R_base ho0) hb); have n3_ := Aside0.mk (Kd.R_elder' (by (with_reducible repeat (first | apply Kd.R_alloc | apply Kd.R_drewN | apply Kd.R_drew)); exact (Kd.R_mono (Kd.R_far (p := ⟨gb307, 2, none⟩) (Kd.R_far (p := ⟨gb307, 1, none⟩) (Kd.R_far (p := ⟨gb307, 0, none⟩) (Kd.R_types HO305.out BK307.out (by decide)) (fun _ hk => by first | exact hk.2 | grind) (.int .i64 t299)) (fun _ hk => by first | exact hk.2 | grind) (.slice Ao24 t300.length co24)) (fun _ hk => by first | exact hk.2 | grind) (.slice Ao25 t303.length co25)) (fun _ h_ => h_.1))) (Kd.R_base ho1) hb); have n4_ := Aside0.mk (Kd.R_lower (Kd.R_new' (Kd.R_new' ho0 (Kd.R_lt (by (with_reducible repeat (first | apply Kd.R_alloc | apply Kd.R_drewN | apply Kd.R_drew)); exact (Kd.R_mono (Kd.R_far (p := ⟨gb307, 2, none⟩) (Kd.R_far (p := ⟨gb307, 1, none⟩) (Kd.R_far (p := ⟨gb307, 0, none⟩) (Kd.R_types HO295.out BK307.out (by decide)) (fun _ hk => by first | exact hk.2 | grind) (.int .i64 t299)) (fun _ hk => by first | exact hk.2 | grind) (.slice Ao24 t300.length co24)) (fun _ hk => by first | exact hk.2 | grind) (.slice Ao25 t303.length co25)) (fun _ h_ => h_.1))))) (Kd.R_lt (by (with_reducible repeat (first | apply Kd.R_alloc | apply Kd.R_drewN | apply Kd.R_drew)); exact (Kd.R_mono (Kd.R_far (p := ⟨gb307, 2, none⟩) (Kd.R_far (p := ⟨gb307, 1, none⟩) (Kd.R_far (p := ⟨gb307, 0, none⟩) (Kd.R_types HO302.out BK307.out (by decide)) (fun _ hk => by first | exact hk.2 | grind) (.int .i64 t299)) (fun _ hk => by first | exact hk.2 | grind) (.slice Ao24 t300.length co24)) (fun _ hk => by first | exact hk.2 | grind) (.slice Ao25 t303.length co25)) (fun _ h_ => h_.1))))) (below_size (by repeat (first | (with_reducible first | exact HB.out | apply below_alloc | apply pw_below_drewN | apply below_drew1 | refine below_set ?_ GE290.out | refine below_set ?_ GE307.out) | exact HB.out)))); have n5_ := Aside0.mk (Kd.R_lower (Kd.R_new' (Kd.R_new' ho1 (Kd.R_lt (by (with_reducible repeat (first | apply Kd.R_alloc | apply Kd.R_drewN | apply Kd.R_drew)); exact (Kd.R_mono (Kd.R_far (p := ⟨gb307, 2, none⟩) (Kd.R_far (p := ⟨gb307, 1, none⟩) (Kd.R_far (p := ⟨gb307, 0, none⟩) (Kd.R_types HO298.out BK307.out (by decide)) (fun _ hk => by first | exact hk.2 | grind) (.int .i64 t299)) (fun _ hk => by first | exact hk.2 | grind) (.slice Ao24 t300.length co24)) (fun _ hk => by first | exact hk.2 | grind) (.slice Ao25 t303.length co25)) (fun _ h_ => h_.1))))) (Kd.R_lt (by (with_reducible repeat (first | apply Kd.R_alloc | apply Kd.R_drewN | apply Kd.R_drew)); exact (Kd.R_mono (Kd.R_far (p := ⟨gb307, 2, none⟩) (Kd.R_far (p := ⟨gb307, 1, none⟩) (Kd.R_far (p := ⟨gb307, 0, none⟩) (Kd.R_types HO305.out BK307.out (by decide)) (fun _ hk => by first | exact hk.2 | grind) (.int .i64 t299)) (fun _ hk => by first | exact hk.2 | grind) (.slice Ao24 t300.length co24)) (fun _ hk => by first | exact hk.2 | grind) (.slice Ao25 t303.length co25)) (fun _ h_ => h_.1))))) (below_size (by repeat (first | (with_reducible first | exact HB.out | apply below_alloc | apply pw_below_drewN | apply below_drew1 | refine below_set ?_ GE290.out | refine below_set ?_ GE307.out) | exact HB.out)))); have n6_ := Aside0.mk (blk_below (g := gb290) (o := .cells #[.int .i64 a0_0, .slice A0_1 l0_1.length c0_1, .slice A0_2 l0_2.length c0_2] 46 (0, 0)) (by (with_reducible repeat (first | refine blk_drewN ?_ _ | refine blk_drew ?_ | refine blk_alloc ?_ _)); refine blk_far ?_ NB290_307.out _; (with_reducible repeat (first | refine blk_drewN ?_ _ | refine blk_drew ?_ | refine blk_alloc ?_ _)); refine blk_far ?_ NB290_307.out _; (with_reducible repeat (first | refine blk_drewN ?_ _ | refine blk_drew ?_ | refine blk_alloc ?_ _)); refine blk_far ?_ NB290_307.out _; exact bk_ BK290) hb); have n7_ := Aside0.mk (blk_below (g := gb307) (o := .cells #[.int .i64 t299, .slice Ao24 t300.length co24, .slice Ao25 t303.length co25] 36 (0, 0)) (by (with_reducible repeat (first | refine blk_drewN ?_ _ | refine blk_drew ?_ | refine blk_alloc ?_ _)); refine blk_put (cs := #[.int .i64 t299, .slice Ao24 t300.length co24, .slice none 0 0]) ?_ 2 _ rfl; (with_reducible repeat (first | refine blk_drewN ?_ _ | refine blk_drew ?_ | refine blk_alloc ?_ _)); refine blk_put (cs := #[.int .i64 t299, .slice none 0 0, .slice none 0 0]) ?_ 1 _ rfl; (with_reducible repeat (first | refine blk_drewN ?_ _ | refine blk_drew ?_ | refine blk_alloc ?_ _)); refine blk_put (cs := #[.int .i64 0, .slice none 0 0, .slice none 0 0]) ?_ 0 _ rfl; exact bk_ BK307) hb); have n8_ := Aside0.mk (below_step (by repeat (first | (with_reducible first | exact HB.out | apply below_alloc | apply pw_below_drewN | apply below_drew1 | refine below_set ?_ GE290.out | refine below_set ?_ GE307.out) | exact HB.out)) hb); clear HO295; clear HO298; clear HO302; clear HO305; clear BK290; clear BK307; clear HB; have HO295 := n0_; have HO298 := n1_; have HO302 := n2_; have HO305 := n3_; have HO311 := n4_; have HO314 := n5_; have BK290 := n6_; have BK307 := n7_; have HB := n8_; clear n0_ n1_ n2_ n3_ n4_ n5_ n6_ n7_ n8_; (try clear hb); (try clear hb2); (try clear hk); (try clear hi); (try clear ho0); (try clear ho1)) | ((with_reducible refine gate_dst (N := 8) rfl ?_); refine box_event ?hg (N := 8) ?hd (cs := #[.int .i64 0, .slice none 0 0, .slice none 0 0]) (t := 36) ?hr ?_; (case hd => rfl); (case hg => rfl); (case hr => first | (go_simp; done) | (go_simp; rfl)); intro gb315 hg w28 hbox hb; have n0_ := Aside0.mk (Kd.R_below (kr_ HO295) hb); have n1_ := Aside0.mk (Kd.R_below (kr_ HO298) hb); have n2_ := Aside0.mk (Kd.R_below (kr_ HO302) hb); have n3_ := Aside0.mk (Kd.R_below (kr_ HO305) hb); have n4_ := Aside0.mk (Kd.R_below (kr_ HO311) hb); have n5_ := Aside0.mk (Kd.R_below (kr_ HO314) hb); have n6_ := Aside0.mk (blk_below (g := gb290) (o := .cells #[.int .i64 a0_0, .slice A0_1 l0_1.length c0_1, .slice A0_2 l0_2.length c0_2] 46 (0, 0)) (bk_ BK290) hb); have n7_ := Aside0.mk (blk_below (g := gb307) (o := .cells #[.int .i64 t299, .slice Ao24 t300.length co24, .slice Ao25 t303.length co25] 36 (0, 0)) (bk_ BK307) hb); have n8_ := Aside0.mk (below_step (by repeat (first | (with_reducible first | exact HB.out | apply below_alloc | apply pw_below_drewN | apply below_drew1 | refine below_set ?_ GE290.out | refine below_set ?_ GE307.out) | exact HB.out)) hb); have n9_ := Aside0.mk (hbox); have n10_ := Aside0.mk ((by rw [hg]; exact (below_size (by repeat (first | (with_reducible first | exact HB.out | apply below_alloc | apply pw_below_drewN | apply below_drew1 | refine below_set ?_ GE290.out | refine below_set ?_ GE307.out) | exact HB.out))) : w.heap.size ≤ gb315)); have n11_ := Aside0.mk ((by rw [hg]; exact (below_size (by repeat (first | (with_reducible first | exact HB.out | apply below_alloc | apply pw_below_drewN | apply below_drew1 | refine below_set ?_ GE290.out | refine below_set ?_ GE307.out) | exact HB.out))) : w.heap.size ≤ gb315)); have n12_ := Aside0.mk ((by rw [hg]; exact Nat.ne_of_lt (blk_lt (g := gb290) (o := .cells #[.int .i64 a0_0, .slice A0_1 l0_1.length c0_1, .slice A0_2 l0_2.length c0_2] 46 (0, 0)) (bk_ BK290)) : gb290 ≠ gb315)); have n13_ := Aside0.mk ((by rw [hg]; exact Nat.ne_of_gt (blk_lt (g := gb290) (o := .cells #[.int .i64 a0_0, .slice A0_1 l0_1.length c0_1, .slice A0_2 l0_2.length c0_2] 46 (0, 0)) (bk_ BK290)) : gb315 ≠ gb290)); have n14_ := Aside0.mk ((by rw [hg]; exact Nat.ne_of_lt (blk_lt (g := gb307) (o := .cells #[.int .i64 t299, .slice Ao24 t300.length co24, .slice Ao25 t303.length co25] 36 (0, 0)) (bk_ BK307)) : gb307 ≠ gb315)); have n15_ := Aside0.mk ((by rw [hg]; exact Nat.ne_of_gt (blk_lt (g := gb307) (o := .cells #[.int .i64 t299, .slice Ao24 t300.length co24, .slice Ao25 t303.length co25] 36 (0, 0)) (bk_ BK307)) : gb315 ≠ gb307)); clear HO295; clear HO298; clear HO302; clear HO305; clear HO311; clear HO314; clear BK290; clear BK307; clear HB; have HO295 := n0_; have HO298 := n1_; have HO302 := n2_; have HO305 := n3_; have HO311 := n4_; have HO314 := n5_; have BK290 := n6_; have BK307 := n7_; have HB := n8_; have BK315 := n9_; have GW315 := n10_; have GE315 := n11_; have NB290_315 := n12_; have NB315_290 := n13_; have NB307_315 := n14_; have NB315_307 := n15_; clear n0_ n1_ n2_ n3_ n4_ n5_ n6_ n7_ n8_ n9_ n10_ n11_ n12_ n13_ n14_ n15_; clear hb hbox hg; have hnb29 := NB315_290.out; have hnc29 := NB290_315.out; have hnb30 := NB315_307.out; have hnc30 := NB307_315.out; have hcz31_0 : w28.cell? ⟨gb315, 0, none⟩ = some (.int .i64 0) := (blk_cell BK315.out 0).trans rfl; have hcz31_1 : w28.cell? ⟨gb315, 1, none⟩ = some (.slice none 0 0) := (blk_cell BK315.out 1).trans rfl; have hcz31_2 : w28.cell? ⟨gb315, 2, none⟩ = some (.slice none 0 0) := (blk_cell BK315.out 2).trans rfl; have hfz31_0 := blk_frozen BK315.out 0; have hfz31_1 := blk_frozen BK315.out 1; have hfz31_2 := blk_frozen BK315.out 2; obtain ⟨Ao32, co32, eo32⟩ := Kd.R_slice HO311.out; subst eo32; obtain ⟨Ao33, co33, eo33⟩ := Kd.R_slice HO314.out; subst eo33) | ((with_reducible refine gate_callee (f := 48) rfl ?_); refine goesL_ (some 33) rfl rfl Try.func48 (by kernel_rfl) rfl #[.agg #[.int .i64 t308, .slice Ao32 t309.length co32, .slice Ao33 t312.length co33], .int .i64 a1] rfl mt_ ?_; (with_reducible refine (impl_StoreGive.calls k t308 _ _ t309 _ _ t312 a1 t316 t317 t320 t323 _ ?side1 ?side2 ?side3 ?side4 A11.out).mono ?_); (case side1 => refine (Kd.R_reads' (e := 3) (base := w.heap.size) (ok := fun k_ => ((True ∧ some k_ ≠ (.slice Ao18 t293.length co18 : Value).ownBlock) ∧ some k_ ≠ (.slice Ao24 t300.length co24 : Value).ownBlock)) (n := t309.length) (c := co32) ?_).2.2; exact (by (with_reducible repeat (first | apply Kd.R_alloc | apply Kd.R_drewN | apply Kd.R_drew)); exact (Kd.R_mono (Kd.R_far (p := ⟨gb315, 2, none⟩) (Kd.R_far (p := ⟨gb315, 1, none⟩) (Kd.R_far (p := ⟨gb315, 0, none⟩) (Kd.R_types HO311.out BK315.out (by decide)) (fun _ hk => by first | exact hk.2 | grind) (.int .i64 t308)) (fun _ hk => by first | exact hk.2 | grind) (.slice Ao32 t309.length co32)) (fun _ hk => by first | exact hk.2 | grind) (.slice Ao33 t312.length co33)) (fun _ h_ => h_.1)))); (case side2 => exact (Kd.R_reads' HO311.out).2.1); (case side3 => refine (Kd.R_reads' (e := 5) (base := w.heap.size) (ok := fun k_ => ((True ∧ some k_ ≠ (.slice Ao19 t296.length co19 : Value).ownBlock) ∧ some k_ ≠ (.slice Ao25 t303.length co25 : Value).ownBlock)) (n := t312.length) (c := co33) ?_).2.2; exact (by (with_reducible repeat (first | apply Kd.R_alloc | apply Kd.R_drewN | apply Kd.R_drew)); exact (Kd.R_mono (Kd.R_far (p := ⟨gb315, 2, none⟩) (Kd.R_far (p := ⟨gb315, 1, none⟩) (Kd.R_far (p := ⟨gb315, 0, none⟩) (Kd.R_types HO314.out BK315.out (by decide)) (fun _ hk => by first | exact hk.2 | grind) (.int .i64 t308)) (fun _ hk => by first | exact hk.2 | grind) (.slice Ao32 t309.length co32)) (fun _ hk => by first | exact hk.2 | grind) (.slice Ao33 t312.length co33)) (fun _ h_ => h_.1)))); (case side4 => exact (Kd.R_reads' HO314.out).2.1); rintro e w34 ⟨v318, v321, rfl, ho0, ho1, hb⟩; refine ⟨_, rfl, ?_⟩; have n0_ := Aside0.mk (Kd.R_elder' (by (with_reducible repeat (first | apply Kd.R_alloc | apply Kd.R_drewN | apply Kd.R_drew)); exact (Kd.R_mono (Kd.R_far (p := ⟨gb315, 2, none⟩) (Kd.R_far (p := ⟨gb315, 1, none⟩) (Kd.R_far (p := ⟨gb315, 0, none⟩) (Kd.R_types HO295.out BK315.out (by decide)) (fun _ hk => by first | exact hk.2 | grind) (.int .i64 t308)) (fun _ hk => by first | exact hk.2 | grind) (.slice Ao32 t309.length co32)) (fun _ hk => by first | exact hk.2 | grind) (.slice Ao33 t312.length co33)) (fun _ h_ => h_.1))) (Kd.R_base ho0) hb); have n1_ := Aside0.mk (Kd.R_elder' (by (with_reducible repeat (first | apply Kd.R_alloc | apply Kd.R_drewN | apply Kd.R_drew)); exact (Kd.R_mono (Kd.R_far (p := ⟨gb315, 2, none⟩) (Kd.R_far (p := ⟨gb315, 1, none⟩) (Kd.R_far (p := ⟨gb315, 0, none⟩) (Kd.R_types HO298.out BK315.out (by decide)) (fun _ hk => by first | exact hk.2 | grind) (.int .i64 t308)) (fun _ hk => by first | exact hk.2 | grind) (.slice Ao32 t309.length co32)) (fun _ hk => by first | exact hk.2 | grind) (.slice Ao33 t312.length co33)) (fun _ h_ => h_.1))) (Kd.R_base ho1) hb); have n2_ := Aside0.mk (Kd.R_elder' (by (with_reducible repeat (first | apply Kd.R_alloc | apply Kd.R_drewN | apply Kd.R_drew)); exact (Kd.R_mono (Kd.R_far (p := ⟨gb315, 2, none⟩) (Kd.R_far (p := ⟨gb315, 1, none⟩) (Kd.R_far (p := ⟨gb315, 0, none⟩) (Kd.R_types HO302.out BK315.out (by decide)) (fun _ hk => by first | exact hk.2 | grind) (.int .i64 t308)) (fun _ hk => by first | exact hk.2 | grind) (.slice Ao32 t309.length co32)) (fun _ hk => by first | exact hk.2 | grind) (.slice Ao33 t312.length co33)) (fun _ h_ => h_.1))) (Kd.R_base ho0) hb); have n3_ := Aside0.mk (Kd.R_elder' (by (with_reducible repeat (first | apply Kd.R_alloc | apply Kd.R_drewN | apply Kd.R_drew)); exact (Kd.R_mono (Kd.R_far (p := ⟨gb315, 2, none⟩) (Kd.R_far (p := ⟨gb315, 1, none⟩) (Kd.R_far (p := ⟨gb315, 0, none⟩) (Kd.R_types HO305.out BK315.out (by decide)) (fun _ hk => by first | exact hk.2 | grind) (.int .i64 t308)) (fun _ hk => by first | exact hk.2 | grind) (.slice Ao32 t309.length co32)) (fun _ hk => by first | exact hk.2 | grind) (.slice Ao33 t312.length co33)) (fun _ h_ => h_.1))) (Kd.R_base ho1) hb); have n4_ := Aside0.mk (Kd.R_elder' (by (with_reducible repeat (first | apply Kd.R_alloc | apply Kd.R_drewN | apply Kd.R_drew)); exact (Kd.R_mono (Kd.R_far (p := ⟨gb315, 2, none⟩) (Kd.R_far (p := ⟨gb315, 1, none⟩) (Kd.R_far (p := ⟨gb315, 0, none⟩) (Kd.R_types HO311.out BK315.out (by decide)) (fun _ hk => by first | exact hk.2 | grind) (.int .i64 t308)) (fun _ hk => by first | exact hk.2 | grind) (.slice Ao32 t309.length co32)) (fun _ hk => by first | exact hk.2 | grind) (.slice Ao33 t312.length co33)) (fun _ h_ => h_.1))) (Kd.R_base ho0) hb); have n5_ := Aside0.mk (Kd.R_elder' (by (with_reducible repeat (first | apply Kd.R_alloc | apply Kd.R_drewN | apply Kd.R_drew)); exact (Kd.R_mono (Kd.R_far (p := ⟨gb315, 2, none⟩) (Kd.R_far (p := ⟨gb315, 1, none⟩) (Kd.R_far (p := ⟨gb315, 0, none⟩) (Kd.R_types HO314.out BK315.out (by decide)) (fun _ hk => by first | exact hk.2 | grind) (.int .i64 t308)) (fun _ hk => by first | exact hk.2 | grind) (.slice Ao32 t309.length co32)) (fun _ hk => by first | exact hk.2 | grind) (.slice Ao33 t312.length co33)) (fun _ h_ => h_.1))) (Kd.R_base ho1) hb); have n6_ := Aside0.mk (Kd.R_lower (Kd.R_new' (Kd.R_new' (Kd.R_new' ho0 (Kd.R_lt (by (with_reducible repeat (first | apply Kd.R_alloc | apply Kd.R_drewN | apply Kd.R_drew)); exact (Kd.R_mono (Kd.R_far (p := ⟨gb315, 2, none⟩) (Kd.R_far (p := ⟨gb315, 1, none⟩) (Kd.R_far (p := ⟨gb315, 0, none⟩) (Kd.R_types HO295.out BK315.out (by decide)) (fun _ hk => by first | exact hk.2 | grind) (.int .i64 t308)) (fun _ hk => by first | exact hk.2 | grind) (.slice Ao32 t309.length co32)) (fun _ hk => by first | exact hk.2 | grind) (.slice Ao33 t312.length co33)) (fun _ h_ => h_.1))))) (Kd.R_lt (by (with_reducible repeat (first | apply Kd.R_alloc | apply Kd.R_drewN | apply Kd.R_drew)); exact (Kd.R_mono (Kd.R_far (p := ⟨gb315, 2, none⟩) (Kd.R_far (p := ⟨gb315, 1, none⟩) (Kd.R_far (p := ⟨gb315, 0, none⟩) (Kd.R_types HO302.out BK315.out (by decide)) (fun _ hk => by first | exact hk.2 | grind) (.int .i64 t308)) (fun _ hk => by first | exact hk.2 | grind) (.slice Ao32 t309.length co32)) (fun _ hk => by first | exact hk.2 | grind) (.slice Ao33 t312.length co33)) (fun _ h_ => h_.1))))) (Kd.R_lt (by (with_reducible repeat (first | apply Kd.R_alloc | apply Kd.R_drewN | apply Kd.R_drew)); exact (Kd.R_mono (Kd.R_far (p := ⟨gb315, 2, none⟩) (Kd.R_far (p := ⟨gb315, 1, none⟩) (Kd.R_far (p := ⟨gb315, 0, none⟩) (Kd.R_types HO311.out BK315.out (by decide)) (fun _ hk => by first | exact hk.2 | grind) (.int .i64 t308)) (fun _ hk => by first | exact hk.2 | grind) (.slice Ao32 t309.length co32)) (fun _ hk => by first | exact hk.2 | grind) (.slice Ao33 t312.length co33)) (fun _ h_ => h_.1))))) (below_size (by repeat (first | (with_reducible first | exact HB.out | apply below_alloc | apply pw_below_drewN | apply below_drew1 | refine below_set ?_ GE290.out | refine below_set ?_ GE307.out | refine below_set ?_ GE315.out) | exact HB.out)))); have n7_ := Aside0.mk (Kd.R_lower (Kd.R_new' (Kd.R_new' (Kd.R_new' ho1 (Kd.R_lt (by (with_reducible repeat (first | apply Kd.R_alloc | apply Kd.R_drewN | apply Kd.R_drew)); exact (Kd.R_mono (Kd.R_far (p := ⟨gb315, 2, none⟩) (Kd.R_far (p := ⟨gb315, 1, none⟩) (Kd.R_far (p := ⟨gb315, 0, none⟩) (Kd.R_types HO298.out BK315.out (by decide)) (fun _ hk => by first | exact hk.2 | grind) (.int .i64 t308)) (fun _ hk => by first | exact hk.2 | grind) (.slice Ao32 t309.length co32)) (fun _ hk => by first | exact hk.2 | grind) (.slice Ao33 t312.length co33)) (fun _ h_ => h_.1))))) (Kd.R_lt (by (with_reducible repeat (first | apply Kd.R_alloc | apply Kd.R_drewN | apply Kd.R_drew)); exact (Kd.R_mono (Kd.R_far (p := ⟨gb315, 2, none⟩) (Kd.R_far (p := ⟨gb315, 1, none⟩) (Kd.R_far (p := ⟨gb315, 0, none⟩) (Kd.R_types HO305.out BK315.out (by decide)) (fun _ hk => by first | exact hk.2 | grind) (.int .i64 t308)) (fun _ hk => by first | exact hk.2 | grind) (.slice Ao32 t309.length co32)) (fun _ hk => by first | exact hk.2 | grind) (.slice Ao33 t312.length co33)) (fun _ h_ => h_.1))))) (Kd.R_lt (by (with_reducible repeat (first | apply Kd.R_alloc | apply Kd.R_drewN | apply Kd.R_drew)); exact (Kd.R_mono (Kd.R_far (p := ⟨gb315, 2, none⟩) (Kd.R_far (p := ⟨gb315, 1, none⟩) (Kd.R_far (p := ⟨gb315, 0, none⟩) (Kd.R_types HO314.out BK315.out (by decide)) (fun _ hk => by first | exact hk.2 | grind) (.int .i64 t308)) (fun _ hk => by first | exact hk.2 | grind) (.slice Ao32 t309.length co32)) (fun _ hk => by first | exact hk.2 | grind) (.slice Ao33 t312.length co33)) (fun _ h_ => h_.1))))) (below_size (by repeat (first | (with_reducible first | exact HB.out | apply below_alloc | apply pw_below_drewN | apply below_drew1 | refine below_set ?_ GE290.out | refine below_set ?_ GE307.out | refine below_set ?_ GE315.out) | exact HB.out)))); have n8_ := Aside0.mk (blk_below (g := gb290) (o := .cells #[.int .i64 a0_0, .slice A0_1 l0_1.length c0_1, .slice A0_2 l0_2.length c0_2] 46 (0, 0)) (by (with_reducible repeat (first | refine blk_drewN ?_ _ | refine blk_drew ?_ | refine blk_alloc ?_ _)); refine blk_far ?_ NB290_315.out _; (with_reducible repeat (first | refine blk_drewN ?_ _ | refine blk_drew ?_ | refine blk_alloc ?_ _)); refine blk_far ?_ NB290_315.out _; (with_reducible repeat (first | refine blk_drewN ?_ _ | refine blk_drew ?_ | refine blk_alloc ?_ _)); refine blk_far ?_ NB290_315.out _; exact bk_ BK290) hb); have n9_ := Aside0.mk (blk_below (g := gb307) (o := .cells #[.int .i64 t299, .slice Ao24 t300.length co24, .slice Ao25 t303.length co25] 36 (0, 0)) (by (with_reducible repeat (first | refine blk_drewN ?_ _ | refine blk_drew ?_ | refine blk_alloc ?_ _)); refine blk_far ?_ NB307_315.out _; (with_reducible repeat (first | refine blk_drewN ?_ _ | refine blk_drew ?_ | refine blk_alloc ?_ _)); refine blk_far ?_ NB307_315.out _; (with_reducible repeat (first | refine blk_drewN ?_ _ | refine blk_drew ?_ | refine blk_alloc ?_ _)); refine blk_far ?_ NB307_315.out _; exact bk_ BK307) hb); have n10_ := Aside0.mk (blk_below (g := gb315) (o := .cells #[.int .i64 t308, .slice Ao32 t309.length co32, .slice Ao33 t312.length co33] 36 (0, 0)) (by (with_reducible repeat (first | refine blk_drewN ?_ _ | refine blk_drew ?_ | refine blk_alloc ?_ _)); refine blk_put (cs := #[.int .i64 t308, .slice Ao32 t309.length co32, .slice none 0 0]) ?_ 2 _ rfl; (with_reducible repeat (first | refine blk_drewN ?_ _ | refine blk_drew ?_ | refine blk_alloc ?_ _)); refine blk_put (cs := #[.int .i64 t308, .slice none 0 0, .slice none 0 0]) ?_ 1 _ rfl; (with_reducible repeat (first | refine blk_drewN ?_ _ | refine blk_drew ?_ | refine blk_alloc ?_ _)); refine blk_put (cs := #[.int .i64 0, .slice none 0 0, .slice none 0 0]) ?_ 0 _ rfl; exact bk_ BK315) hb); have n11_ := Aside0.mk (below_step (by repeat (first | (with_reducible first | exact HB.out | apply below_alloc | apply pw_below_drewN | apply below_drew1 | refine below_set ?_ GE290.out | refine below_set ?_ GE307.out | refine below_set ?_ GE315.out) | exact HB.out)) hb); clear HO295; clear HO298; clear HO302; clear HO305; clear HO311; clear HO314; clear BK290; clear BK307; clear BK315; clear HB; have HO295 := n0_; have HO298 := n1_; have HO302 := n2_; have HO305 := n3_; have HO311 := n4_; have HO314 := n5_; have HO319 := n6_; have HO322 := n7_; have BK290 := n8_; have BK307 := n9_; have BK315 := n10_; have HB := n11_; clear n0_ n1_ n2_ n3_ n4_ n5_ n6_ n7_ n8_ n9_ n10_ n11_; (try clear hb); (try clear hb2); (try clear hk); (try clear hi); (try clear ho0); (try clear ho1)) | ((with_reducible refine gate_dst (N := 9) rfl ?_); refine box_event ?hg (N := 9) ?hd (cs := #[.int .i64 0, .slice none 0 0, .slice none 0 0]) (t := 36) ?hr ?_; (case hd => rfl); (case hg => rfl); (case hr => first | (go_simp; done) | (go_simp; rfl)); intro gb324 hg w35 hbox hb; have n0_ := Aside0.mk (Kd.R_below (kr_ HO295) hb); have n1_ := Aside0.mk (Kd.R_below (kr_ HO298) hb); have n2_ := Aside0.mk (Kd.R_below (kr_ HO302) hb); have n3_ := Aside0.mk (Kd.R_below (kr_ HO305) hb); have n4_ := Aside0.mk (Kd.R_below (kr_ HO311) hb); have n5_ := Aside0.mk (Kd.R_below (kr_ HO314) hb); have n6_ := Aside0.mk (Kd.R_below (kr_ HO319) hb); have n7_ := Aside0.mk (Kd.R_below (kr_ HO322) hb); have n8_ := Aside0.mk (blk_below (g := gb290) (o := .cells #[.int .i64 a0_0, .slice A0_1 l0_1.length c0_1, .slice A0_2 l0_2.length c0_2] 46 (0, 0)) (bk_ BK290) hb); have n9_ := Aside0.mk (blk_below (g := gb307) (o := .cells #[.int .i64 t299, .slice Ao24 t300.length co24, .slice Ao25 t303.length co25] 36 (0, 0)) (bk_ BK307) hb); have n10_ := Aside0.mk (blk_below (g := gb315) (o := .cells #[.int .i64 t308, .slice Ao32 t309.length co32, .slice Ao33 t312.length co33] 36 (0, 0)) (bk_ BK315) hb); have n11_ := Aside0.mk (below_step (by repeat (first | (with_reducible first | exact HB.out | apply below_alloc | apply pw_below_drewN | apply below_drew1 | refine below_set ?_ GE290.out | refine below_set ?_ GE307.out | refine below_set ?_ GE315.out) | exact HB.out)) hb); have n12_ := Aside0.mk (hbox); have n13_ := Aside0.mk ((by rw [hg]; exact (below_size (by repeat (first | (with_reducible first | exact HB.out | apply below_alloc | apply pw_below_drewN | apply below_drew1 | refine below_set ?_ GE290.out | refine below_set ?_ GE307.out | refine below_set ?_ GE315.out) | exact HB.out))) : w.heap.size ≤ gb324)); have n14_ := Aside0.mk ((by rw [hg]; exact (below_size (by repeat (first | (with_reducible first | exact HB.out | apply below_alloc | apply pw_below_drewN | apply below_drew1 | refine below_set ?_ GE290.out | refine below_set ?_ GE307.out | refine below_set ?_ GE315.out) | exact HB.out))) : w.heap.size ≤ gb324)); have n15_ := Aside0.mk ((by rw [hg]; exact Nat.ne_of_lt (blk_lt (g := gb290) (o := .cells #[.int .i64 a0_0, .slice A0_1 l0_1.length c0_1, .slice A0_2 l0_2.length c0_2] 46 (0, 0)) (bk_ BK290)) : gb290 ≠ gb324)); have n16_ := Aside0.mk ((by rw [hg]; exact Nat.ne_of_gt (blk_lt (g := gb290) (o := .cells #[.int .i64 a0_0, .slice A0_1 l0_1.length c0_1, .slice A0_2 l0_2.length c0_2] 46 (0, 0)) (bk_ BK290)) : gb324 ≠ gb290)); have n17_ := Aside0.mk ((by rw [hg]; exact Nat.ne_of_lt (blk_lt (g := gb307) (o := .cells #[.int .i64 t299, .slice Ao24 t300.length co24, .slice Ao25 t303.length co25] 36 (0, 0)) (bk_ BK307)) : gb307 ≠ gb324)); have n18_ := Aside0.mk ((by rw [hg]; exact Nat.ne_of_gt (blk_lt (g := gb307) (o := .cells #[.int .i64 t299, .slice Ao24 t300.length co24, .slice Ao25 t303.length co25] 36 (0, 0)) (bk_ BK307)) : gb324 ≠ gb307)); have n19_ := Aside0.mk ((by rw [hg]; exact Nat.ne_of_lt (blk_lt (g := gb315) (o := .cells #[.int .i64 t308, .slice Ao32 t309.length co32, .slice Ao33 t312.length co33] 36 (0, 0)) (bk_ BK315)) : gb315 ≠ gb324)); have n20_ := Aside0.mk ((by rw [hg]; exact Nat.ne_of_gt (blk_lt (g := gb315) (o := .cells #[.int .i64 t308, .slice Ao32 t309.length co32, .slice Ao33 t312.length co33] 36 (0, 0)) (bk_ BK315)) : gb324 ≠ gb315)); clear HO295; clear HO298; clear HO302; clear HO305; clear HO311; clear HO314; clear HO319; clear HO322; clear BK290; clear BK307; clear BK315; clear HB; have HO295 := n0_; have HO298 := n1_; have HO302 := n2_; have HO305 := n3_; have HO311 := n4_; have HO314 := n5_; have HO319 := n6_; have HO322 := n7_; have BK290 := n8_; have BK307 := n9_; have BK315 := n10_; have HB := n11_; have BK324 := n12_; have GW324 := n13_; have GE324 := n14_; have NB290_324 := n15_; have NB324_290 := n16_; have NB307_324 := n17_; have NB324_307 := n18_; have NB315_324 := n19_; have NB324_315 := n20_; clear n0_ n1_ n2_ n3_ n4_ n5_ n6_ n7_ n8_ n9_ n10_ n11_ n12_ n13_ n14_ n15_ n16_ n17_ n18_ n19_ n20_; clear hb hbox hg; have hnb36 := NB324_290.out; have hnc36 := NB290_324.out; have hnb37 := NB324_307.out; have hnc37 := NB307_324.out; have hnb38 := NB324_315.out; have hnc38 := NB315_324.out; have hcz39_0 : w35.cell? ⟨gb324, 0, none⟩ = some (.int .i64 0) := (blk_cell BK324.out 0).trans rfl; have hcz39_1 : w35.cell? ⟨gb324, 1, none⟩ = some (.slice none 0 0) := (blk_cell BK324.out 1).trans rfl; have hcz39_2 : w35.cell? ⟨gb324, 2, none⟩ = some (.slice none 0 0) := (blk_cell BK324.out 2).trans rfl; have hfz39_0 := blk_frozen BK324.out 0; have hfz39_1 := blk_frozen BK324.out 1; have hfz39_2 := blk_frozen BK324.out 2; obtain ⟨Ao40, co40, eo40⟩ := Kd.R_slice HO319.out; subst eo40; obtain ⟨Ao41, co41, eo41⟩ := Kd.R_slice HO322.out; subst eo41))
  (try simp only [Act.put, List.setIfInBounds_toArray, List.set_cons_zero, List.set_cons_succ])
  go_cut [44] (fun v44 wc => ∃ (kq : Nat) (x44_11 : Bool), v44 = .bool x44_11 ∧ Aside0 (laws_FnExactStoreGive.j0 kq a1 t306 t323 x44_11 a0_0 l0_1 l0_2 t299 t300 t303 t308 t309 t312 t316 t317 t320 = some r) ∧ Aside0 (kq ≤ k) ∧ Aside0 (Kd.R (Kd.int .i64) 3 wc w.heap.size (fun k_ => some k_ ≠ ((.slice Ao32 t309.length co32) : Value).ownBlock ∧ some k_ ≠ ((.slice Ao40 t317.length co40) : Value).ownBlock) (.slice Ao24 t300.length co24) t300) ∧ Aside0 (Kd.R (Kd.int .u8) 5 wc w.heap.size (fun k_ => some k_ ≠ ((.slice Ao33 t312.length co33) : Value).ownBlock ∧ some k_ ≠ ((.slice Ao41 t320.length co41) : Value).ownBlock) (.slice Ao25 t303.length co25) t303) ∧ Aside0 (Kd.R (Kd.int .i64) 3 wc w.heap.size (fun k_ => some k_ ≠ ((.slice Ao24 t300.length co24) : Value).ownBlock ∧ some k_ ≠ ((.slice Ao40 t317.length co40) : Value).ownBlock) (.slice Ao32 t309.length co32) t309) ∧ Aside0 (Kd.R (Kd.int .u8) 5 wc w.heap.size (fun k_ => some k_ ≠ ((.slice Ao25 t303.length co25) : Value).ownBlock ∧ some k_ ≠ ((.slice Ao41 t320.length co41) : Value).ownBlock) (.slice Ao33 t312.length co33) t312) ∧ Aside0 (Kd.R (Kd.int .i64) 3 wc w.heap.size (fun k_ => some k_ ≠ ((.slice Ao24 t300.length co24) : Value).ownBlock ∧ some k_ ≠ ((.slice Ao32 t309.length co32) : Value).ownBlock) (.slice Ao40 t317.length co40) t317) ∧ Aside0 (Kd.R (Kd.int .u8) 5 wc w.heap.size (fun k_ => some k_ ≠ ((.slice Ao25 t303.length co25) : Value).ownBlock ∧ some k_ ≠ ((.slice Ao33 t312.length co33) : Value).ownBlock) (.slice Ao41 t320.length co41) t320) ∧ Aside0 (wc.heap[gb290]? = some (.cells #[.int .i64 a0_0, (.slice A0_1 l0_1.length c0_1), (.slice A0_2 l0_2.length c0_2)] 46 (0, 0))) ∧ Aside0 (wc.heap[gb307]? = some (.cells #[.int .i64 t299, (.slice Ao24 t300.length co24), (.slice Ao25 t303.length co25)] 36 (0, 0))) ∧ Aside0 (wc.heap[gb315]? = some (.cells #[.int .i64 t308, (.slice Ao32 t309.length co32), (.slice Ao33 t312.length co33)] 36 (0, 0))) ∧ Aside0 (wc.heap[gb324]? = some (.cells #[.int .i64 t316, (.slice Ao40 t317.length co40), (.slice Ao41 t320.length co41)] 36 (0, 0))) ∧ Aside0 (Below w.heap.size w wc))
  case first =>
   have H := HC12.out
   clear HC12
   replace H := Option.bind_eq_some_iff.mp H
   obtain ⟨t325, A420, H⟩ := H
   replace H : (if t325 = true then (laws_FnExactStoreGive.j0 k a1 t306 t323 (t323 != t306) a0_0 l0_1 l0_2 t299 t300 t303 t308 t309 t312 t316 t317 t320) else (laws_FnExactStoreGive.j0 k a1 t306 t323 true a0_0 l0_1 l0_2 t299 t300 t303 t308 t309 t312 t316 t317 t320)) = some r := H
   have A42 := Aside0.mk A420
   clear A420
   by_cases c43 : t325 = true
   ·subst c43
    have H1 : (laws_FnExactStoreGive.j0 k a1 t306 t323 (t323 != t306) a0_0 l0_1 l0_2 t299 t300 t303 t308 t309 t312 t316 t317 t320) = some r := by rw [if_pos rfl] at H; exact H
    clear H
    have H := H1
    clear H1
    have H' := Aside0.mk H
    clear H
    have hnb44 := NB324_290.out
    have hnc44 := NB290_324.out
    have hnb45 := NB324_307.out
    have hnc45 := NB307_324.out
    have hnb46 := NB324_315.out
    have hnc46 := NB315_324.out
    have hcz47_0 : w35.cell? ⟨gb324, 0, none⟩ = some (.int .i64 0) := (blk_cell BK324.out 0).trans rfl
    have hcz47_1 : w35.cell? ⟨gb324, 1, none⟩ = some (.slice none 0 0) := (blk_cell BK324.out 1).trans rfl
    have hcz47_2 : w35.cell? ⟨gb324, 2, none⟩ = some (.slice none 0 0) := (blk_cell BK324.out 2).trans rfl
    have hfz47_0 := blk_frozen BK324.out 0
    have hfz47_1 := blk_frozen BK324.out 1
    have hfz47_2 := blk_frozen BK324.out 2
    have hnb48 := NB307_290.out
    have hnc48 := NB290_307.out
    have hnb49 := NB307_315.out
    have hnc49 := NB315_307.out
    have hcz50_0 : w35.cell? ⟨gb307, 0, none⟩ = some (.int .i64 t299) := (blk_cell BK307.out 0).trans rfl
    have hcz50_1 : w35.cell? ⟨gb307, 1, none⟩ = some (.slice Ao24 t300.length co24) := (blk_cell BK307.out 1).trans rfl
    have hcz50_2 : w35.cell? ⟨gb307, 2, none⟩ = some (.slice Ao25 t303.length co25) := (blk_cell BK307.out 2).trans rfl
    have hfz50_0 := blk_frozen BK307.out 0
    have hfz50_1 := blk_frozen BK307.out 1
    have hfz50_2 := blk_frozen BK307.out 2
    go_wp2_with (first | ((with_reducible refine gate_callee (f := 28) rfl ?_); refine goesL_ (some 38) rfl rfl Try.func28 (by kernel_rfl) rfl #[.agg #[.int .i64 t316, .slice Ao40 t317.length co40, .slice Ao41 t320.length co41], .agg #[.int .i64 t299, .slice Ao24 t300.length co24, .slice Ao25 t303.length co25]] rfl mt_ ?_; (with_reducible refine (laws_eqStore.calls k t316 _ _ t317 _ _ t320 t299 _ _ t300 _ _ t303 true _ ?side1 ?side2 ?side3 ?side4 ?side5 ?side6 ?side7 ?side8 A42.out).mono ?_); (case side1 => refine (Kd.R_reads' (e := 3) (base := w.heap.size) (ok := fun k_ => (((True ∧ some k_ ≠ (.slice Ao18 t293.length co18 : Value).ownBlock) ∧ some k_ ≠ (.slice Ao24 t300.length co24 : Value).ownBlock) ∧ some k_ ≠ (.slice Ao32 t309.length co32 : Value).ownBlock)) (n := t317.length) (c := co40) ?_).2.2; exact (by (with_reducible repeat (first | apply Kd.R_alloc | apply Kd.R_drewN | apply Kd.R_drew)); exact (Kd.R_mono (Kd.R_far (p := ⟨gb324, 2, none⟩) (Kd.R_far (p := ⟨gb324, 1, none⟩) (Kd.R_far (p := ⟨gb324, 0, none⟩) (Kd.R_types HO319.out BK324.out (by decide)) (fun _ hk => by first | exact hk.2 | grind) (.int .i64 t316)) (fun _ hk => by first | exact hk.2 | grind) (.slice Ao40 t317.length co40)) (fun _ hk => by first | exact hk.2 | grind) (.slice Ao41 t320.length co41)) (fun _ h_ => h_.1)))); (case side2 => exact (Kd.R_reads' HO319.out).2.1); (case side3 => refine (Kd.R_reads' (e := 5) (base := w.heap.size) (ok := fun k_ => (((True ∧ some k_ ≠ (.slice Ao19 t296.length co19 : Value).ownBlock) ∧ some k_ ≠ (.slice Ao25 t303.length co25 : Value).ownBlock) ∧ some k_ ≠ (.slice Ao33 t312.length co33 : Value).ownBlock)) (n := t320.length) (c := co41) ?_).2.2; exact (by (with_reducible repeat (first | apply Kd.R_alloc | apply Kd.R_drewN | apply Kd.R_drew)); exact (Kd.R_mono (Kd.R_far (p := ⟨gb324, 2, none⟩) (Kd.R_far (p := ⟨gb324, 1, none⟩) (Kd.R_far (p := ⟨gb324, 0, none⟩) (Kd.R_types HO322.out BK324.out (by decide)) (fun _ hk => by first | exact hk.2 | grind) (.int .i64 t316)) (fun _ hk => by first | exact hk.2 | grind) (.slice Ao40 t317.length co40)) (fun _ hk => by first | exact hk.2 | grind) (.slice Ao41 t320.length co41)) (fun _ h_ => h_.1)))); (case side4 => exact (Kd.R_reads' HO322.out).2.1); (case side5 => refine (Kd.R_reads' (e := 3) (base := w.heap.size) (ok := fun k_ => (((True ∧ some k_ ≠ (.slice Ao18 t293.length co18 : Value).ownBlock) ∧ some k_ ≠ (.slice Ao32 t309.length co32 : Value).ownBlock) ∧ some k_ ≠ (.slice Ao40 t317.length co40 : Value).ownBlock)) (n := t300.length) (c := co24) ?_).2.2; exact (by (with_reducible repeat (first | apply Kd.R_alloc | apply Kd.R_drewN | apply Kd.R_drew)); exact (Kd.R_mono (Kd.R_far (p := ⟨gb324, 2, none⟩) (Kd.R_far (p := ⟨gb324, 1, none⟩) (Kd.R_far (p := ⟨gb324, 0, none⟩) (Kd.R_types HO302.out BK324.out (by decide)) (fun _ hk => by first | exact hk.2 | grind) (.int .i64 t316)) (fun _ hk => by first | exact hk.2 | grind) (.slice Ao40 t317.length co40)) (fun _ hk => by first | exact hk.2 | grind) (.slice Ao41 t320.length co41)) (fun _ h_ => h_.1)))); (case side6 => exact (Kd.R_reads' HO302.out).2.1); (case side7 => refine (Kd.R_reads' (e := 5) (base := w.heap.size) (ok := fun k_ => (((True ∧ some k_ ≠ (.slice Ao19 t296.length co19 : Value).ownBlock) ∧ some k_ ≠ (.slice Ao33 t312.length co33 : Value).ownBlock) ∧ some k_ ≠ (.slice Ao41 t320.length co41 : Value).ownBlock)) (n := t303.length) (c := co25) ?_).2.2; exact (by (with_reducible repeat (first | apply Kd.R_alloc | apply Kd.R_drewN | apply Kd.R_drew)); exact (Kd.R_mono (Kd.R_far (p := ⟨gb324, 2, none⟩) (Kd.R_far (p := ⟨gb324, 1, none⟩) (Kd.R_far (p := ⟨gb324, 0, none⟩) (Kd.R_types HO305.out BK324.out (by decide)) (fun _ hk => by first | exact hk.2 | grind) (.int .i64 t316)) (fun _ hk => by first | exact hk.2 | grind) (.slice Ao40 t317.length co40)) (fun _ hk => by first | exact hk.2 | grind) (.slice Ao41 t320.length co41)) (fun _ h_ => h_.1)))); (case side8 => exact (Kd.R_reads' HO305.out).2.1); rintro e w51 ⟨rfl, hb⟩; refine ⟨_, rfl, ?_⟩; have n0_ := Aside0.mk (Kd.R_below (by (with_reducible repeat (first | apply Kd.R_alloc | apply Kd.R_drewN | apply Kd.R_drew)); exact (Kd.R_mono (Kd.R_far (p := ⟨gb324, 2, none⟩) (Kd.R_far (p := ⟨gb324, 1, none⟩) (Kd.R_far (p := ⟨gb324, 0, none⟩) (Kd.R_types HO295.out BK324.out (by decide)) (fun _ hk => by first | exact hk.2 | grind) (.int .i64 t316)) (fun _ hk => by first | exact hk.2 | grind) (.slice Ao40 t317.length co40)) (fun _ hk => by first | exact hk.2 | grind) (.slice Ao41 t320.length co41)) (fun _ h_ => h_.1))) hb); have n1_ := Aside0.mk (Kd.R_below (by (with_reducible repeat (first | apply Kd.R_alloc | apply Kd.R_drewN | apply Kd.R_drew)); exact (Kd.R_mono (Kd.R_far (p := ⟨gb324, 2, none⟩) (Kd.R_far (p := ⟨gb324, 1, none⟩) (Kd.R_far (p := ⟨gb324, 0, none⟩) (Kd.R_types HO298.out BK324.out (by decide)) (fun _ hk => by first | exact hk.2 | grind) (.int .i64 t316)) (fun _ hk => by first | exact hk.2 | grind) (.slice Ao40 t317.length co40)) (fun _ hk => by first | exact hk.2 | grind) (.slice Ao41 t320.length co41)) (fun _ h_ => h_.1))) hb); have n2_ := Aside0.mk (Kd.R_below (by (with_reducible repeat (first | apply Kd.R_alloc | apply Kd.R_drewN | apply Kd.R_drew)); exact (Kd.R_mono (Kd.R_far (p := ⟨gb324, 2, none⟩) (Kd.R_far (p := ⟨gb324, 1, none⟩) (Kd.R_far (p := ⟨gb324, 0, none⟩) (Kd.R_types HO302.out BK324.out (by decide)) (fun _ hk => by first | exact hk.2 | grind) (.int .i64 t316)) (fun _ hk => by first | exact hk.2 | grind) (.slice Ao40 t317.length co40)) (fun _ hk => by first | exact hk.2 | grind) (.slice Ao41 t320.length co41)) (fun _ h_ => h_.1))) hb); have n3_ := Aside0.mk (Kd.R_below (by (with_reducible repeat (first | apply Kd.R_alloc | apply Kd.R_drewN | apply Kd.R_drew)); exact (Kd.R_mono (Kd.R_far (p := ⟨gb324, 2, none⟩) (Kd.R_far (p := ⟨gb324, 1, none⟩) (Kd.R_far (p := ⟨gb324, 0, none⟩) (Kd.R_types HO305.out BK324.out (by decide)) (fun _ hk => by first | exact hk.2 | grind) (.int .i64 t316)) (fun _ hk => by first | exact hk.2 | grind) (.slice Ao40 t317.length co40)) (fun _ hk => by first | exact hk.2 | grind) (.slice Ao41 t320.length co41)) (fun _ h_ => h_.1))) hb); have n4_ := Aside0.mk (Kd.R_below (by (with_reducible repeat (first | apply Kd.R_alloc | apply Kd.R_drewN | apply Kd.R_drew)); exact (Kd.R_mono (Kd.R_far (p := ⟨gb324, 2, none⟩) (Kd.R_far (p := ⟨gb324, 1, none⟩) (Kd.R_far (p := ⟨gb324, 0, none⟩) (Kd.R_types HO311.out BK324.out (by decide)) (fun _ hk => by first | exact hk.2 | grind) (.int .i64 t316)) (fun _ hk => by first | exact hk.2 | grind) (.slice Ao40 t317.length co40)) (fun _ hk => by first | exact hk.2 | grind) (.slice Ao41 t320.length co41)) (fun _ h_ => h_.1))) hb); have n5_ := Aside0.mk (Kd.R_below (by (with_reducible repeat (first | apply Kd.R_alloc | apply Kd.R_drewN | apply Kd.R_drew)); exact (Kd.R_mono (Kd.R_far (p := ⟨gb324, 2, none⟩) (Kd.R_far (p := ⟨gb324, 1, none⟩) (Kd.R_far (p := ⟨gb324, 0, none⟩) (Kd.R_types HO314.out BK324.out (by decide)) (fun _ hk => by first | exact hk.2 | grind) (.int .i64 t316)) (fun _ hk => by first | exact hk.2 | grind) (.slice Ao40 t317.length co40)) (fun _ hk => by first | exact hk.2 | grind) (.slice Ao41 t320.length co41)) (fun _ h_ => h_.1))) hb); have n6_ := Aside0.mk (Kd.R_below (by (with_reducible repeat (first | apply Kd.R_alloc | apply Kd.R_drewN | apply Kd.R_drew)); exact (Kd.R_mono (Kd.R_far (p := ⟨gb324, 2, none⟩) (Kd.R_far (p := ⟨gb324, 1, none⟩) (Kd.R_far (p := ⟨gb324, 0, none⟩) (Kd.R_types HO319.out BK324.out (by decide)) (fun _ hk => by first | exact hk.2 | grind) (.int .i64 t316)) (fun _ hk => by first | exact hk.2 | grind) (.slice Ao40 t317.length co40)) (fun _ hk => by first | exact hk.2 | grind) (.slice Ao41 t320.length co41)) (fun _ h_ => h_.1))) hb); have n7_ := Aside0.mk (Kd.R_below (by (with_reducible repeat (first | apply Kd.R_alloc | apply Kd.R_drewN | apply Kd.R_drew)); exact (Kd.R_mono (Kd.R_far (p := ⟨gb324, 2, none⟩) (Kd.R_far (p := ⟨gb324, 1, none⟩) (Kd.R_far (p := ⟨gb324, 0, none⟩) (Kd.R_types HO322.out BK324.out (by decide)) (fun _ hk => by first | exact hk.2 | grind) (.int .i64 t316)) (fun _ hk => by first | exact hk.2 | grind) (.slice Ao40 t317.length co40)) (fun _ hk => by first | exact hk.2 | grind) (.slice Ao41 t320.length co41)) (fun _ h_ => h_.1))) hb); have n8_ := Aside0.mk (blk_below (g := gb290) (o := .cells #[.int .i64 a0_0, .slice A0_1 l0_1.length c0_1, .slice A0_2 l0_2.length c0_2] 46 (0, 0)) (by (with_reducible repeat (first | refine blk_drewN ?_ _ | refine blk_drew ?_ | refine blk_alloc ?_ _)); refine blk_far ?_ NB290_324.out _; (with_reducible repeat (first | refine blk_drewN ?_ _ | refine blk_drew ?_ | refine blk_alloc ?_ _)); refine blk_far ?_ NB290_324.out _; (with_reducible repeat (first | refine blk_drewN ?_ _ | refine blk_drew ?_ | refine blk_alloc ?_ _)); refine blk_far ?_ NB290_324.out _; exact bk_ BK290) hb); have n9_ := Aside0.mk (blk_below (g := gb307) (o := .cells #[.int .i64 t299, .slice Ao24 t300.length co24, .slice Ao25 t303.length co25] 36 (0, 0)) (by (with_reducible repeat (first | refine blk_drewN ?_ _ | refine blk_drew ?_ | refine blk_alloc ?_ _)); refine blk_far ?_ NB307_324.out _; (with_reducible repeat (first | refine blk_drewN ?_ _ | refine blk_drew ?_ | refine blk_alloc ?_ _)); refine blk_far ?_ NB307_324.out _; (with_reducible repeat (first | refine blk_drewN ?_ _ | refine blk_drew ?_ | refine blk_alloc ?_ _)); refine blk_far ?_ NB307_324.out _; exact bk_ BK307) hb); have n10_ := Aside0.mk (blk_below (g := gb315) (o := .cells #[.int .i64 t308, .slice Ao32 t309.length co32, .slice Ao33 t312.length co33] 36 (0, 0)) (by (with_reducible repeat (first | refine blk_drewN ?_ _ | refine blk_drew ?_ | refine blk_alloc ?_ _)); refine blk_far ?_ NB315_324.out _; (with_reducible repeat (first | refine blk_drewN ?_ _ | refine blk_drew ?_ | refine blk_alloc ?_ _)); refine blk_far ?_ NB315_324.out _; (with_reducible repeat (first | refine blk_drewN ?_ _ | refine blk_drew ?_ | refine blk_alloc ?_ _)); refine blk_far ?_ NB315_324.out _; exact bk_ BK315) hb); have n11_ := Aside0.mk (blk_below (g := gb324) (o := .cells #[.int .i64 t316, .slice Ao40 t317.length co40, .slice Ao41 t320.length co41] 36 (0, 0)) (by (with_reducible repeat (first | refine blk_drewN ?_ _ | refine blk_drew ?_ | refine blk_alloc ?_ _)); refine blk_put (cs := #[.int .i64 t316, .slice Ao40 t317.length co40, .slice none 0 0]) ?_ 2 _ rfl; (with_reducible repeat (first | refine blk_drewN ?_ _ | refine blk_drew ?_ | refine blk_alloc ?_ _)); refine blk_put (cs := #[.int .i64 t316, .slice none 0 0, .slice none 0 0]) ?_ 1 _ rfl; (with_reducible repeat (first | refine blk_drewN ?_ _ | refine blk_drew ?_ | refine blk_alloc ?_ _)); refine blk_put (cs := #[.int .i64 0, .slice none 0 0, .slice none 0 0]) ?_ 0 _ rfl; exact bk_ BK324) hb); have n12_ := Aside0.mk (below_step (by repeat (first | (with_reducible first | exact HB.out | apply below_alloc | apply pw_below_drewN | apply below_drew1 | refine below_set ?_ GE290.out | refine below_set ?_ GE307.out | refine below_set ?_ GE315.out | refine below_set ?_ GE324.out) | exact HB.out)) hb); clear HO295; clear HO298; clear HO302; clear HO305; clear HO311; clear HO314; clear HO319; clear HO322; clear BK290; clear BK307; clear BK315; clear BK324; clear HB; have HO295 := n0_; have HO298 := n1_; have HO302 := n2_; have HO305 := n3_; have HO311 := n4_; have HO314 := n5_; have HO319 := n6_; have HO322 := n7_; have BK290 := n8_; have BK307 := n9_; have BK315 := n10_; have BK324 := n11_; have HB := n12_; clear n0_ n1_ n2_ n3_ n4_ n5_ n6_ n7_ n8_ n9_ n10_ n11_ n12_; (try clear hb); (try clear hb2); (try clear hk); (try clear hi)))
    go_meet
    case rel => exact ⟨_, ((t323 != t306)), (by first | rfl | (simp; done) | (simp [*]; done)), H', ⟨by first | omega | exact Nat.le_refl _⟩, ⟨by (with_reducible repeat (first | apply Kd.R_alloc | apply Kd.R_drewN | apply Kd.R_drew)); exact Kd.R_mono HO302.out (fun _ hk => by first | exact ⟨hk.1.2, hk.2⟩ | grind)⟩, ⟨by (with_reducible repeat (first | apply Kd.R_alloc | apply Kd.R_drewN | apply Kd.R_drew)); exact Kd.R_mono HO305.out (fun _ hk => by first | exact ⟨hk.1.2, hk.2⟩ | grind)⟩, ⟨by (with_reducible repeat (first | apply Kd.R_alloc | apply Kd.R_drewN | apply Kd.R_drew)); exact Kd.R_mono HO311.out (fun _ hk => by first | exact ⟨hk.1.2, hk.2⟩ | grind)⟩, ⟨by (with_reducible repeat (first | apply Kd.R_alloc | apply Kd.R_drewN | apply Kd.R_drew)); exact Kd.R_mono HO314.out (fun _ hk => by first | exact ⟨hk.1.2, hk.2⟩ | grind)⟩, ⟨by (with_reducible repeat (first | apply Kd.R_alloc | apply Kd.R_drewN | apply Kd.R_drew)); exact Kd.R_mono HO319.out (fun _ hk => by first | exact ⟨hk.1.2, hk.2⟩ | grind)⟩, ⟨by (with_reducible repeat (first | apply Kd.R_alloc | apply Kd.R_drewN | apply Kd.R_drew)); exact Kd.R_mono HO322.out (fun _ hk => by first | exact ⟨hk.1.2, hk.2⟩ | grind)⟩, ⟨bk_ BK290⟩, ⟨bk_ BK307⟩, ⟨bk_ BK315⟩, ⟨bk_ BK324⟩, ⟨by repeat (first | (with_reducible first | exact HB.out | apply below_alloc | apply pw_below_drewN | apply below_drew1 | refine below_set ?_ GE290.out | refine below_set ?_ GE307.out | refine below_set ?_ GE315.out | refine below_set ?_ GE324.out) | exact HB.out)⟩⟩
   ·replace c43 := Bool.eq_false_iff.mpr c43
    subst c43
    have H1 : (laws_FnExactStoreGive.j0 k a1 t306 t323 true a0_0 l0_1 l0_2 t299 t300 t303 t308 t309 t312 t316 t317 t320) = some r := by rw [if_neg (show ¬ (false = true) by decide)] at H; exact H
    clear H
    have H := H1
    clear H1
    have H' := Aside0.mk H
    clear H
    have hnb52 := NB324_290.out
    have hnc52 := NB290_324.out
    have hnb53 := NB324_307.out
    have hnc53 := NB307_324.out
    have hnb54 := NB324_315.out
    have hnc54 := NB315_324.out
    have hcz55_0 : w35.cell? ⟨gb324, 0, none⟩ = some (.int .i64 0) := (blk_cell BK324.out 0).trans rfl
    have hcz55_1 : w35.cell? ⟨gb324, 1, none⟩ = some (.slice none 0 0) := (blk_cell BK324.out 1).trans rfl
    have hcz55_2 : w35.cell? ⟨gb324, 2, none⟩ = some (.slice none 0 0) := (blk_cell BK324.out 2).trans rfl
    have hfz55_0 := blk_frozen BK324.out 0
    have hfz55_1 := blk_frozen BK324.out 1
    have hfz55_2 := blk_frozen BK324.out 2
    have hnb56 := NB307_290.out
    have hnc56 := NB290_307.out
    have hnb57 := NB307_315.out
    have hnc57 := NB315_307.out
    have hcz58_0 : w35.cell? ⟨gb307, 0, none⟩ = some (.int .i64 t299) := (blk_cell BK307.out 0).trans rfl
    have hcz58_1 : w35.cell? ⟨gb307, 1, none⟩ = some (.slice Ao24 t300.length co24) := (blk_cell BK307.out 1).trans rfl
    have hcz58_2 : w35.cell? ⟨gb307, 2, none⟩ = some (.slice Ao25 t303.length co25) := (blk_cell BK307.out 2).trans rfl
    have hfz58_0 := blk_frozen BK307.out 0
    have hfz58_1 := blk_frozen BK307.out 1
    have hfz58_2 := blk_frozen BK307.out 2
    go_wp2_with (first | ((with_reducible refine gate_callee (f := 28) rfl ?_); refine goesL_ (some 38) rfl rfl Try.func28 (by kernel_rfl) rfl #[.agg #[.int .i64 t316, .slice Ao40 t317.length co40, .slice Ao41 t320.length co41], .agg #[.int .i64 t299, .slice Ao24 t300.length co24, .slice Ao25 t303.length co25]] rfl mt_ ?_; (with_reducible refine (laws_eqStore.calls k t316 _ _ t317 _ _ t320 t299 _ _ t300 _ _ t303 false _ ?side1 ?side2 ?side3 ?side4 ?side5 ?side6 ?side7 ?side8 A42.out).mono ?_); (case side1 => refine (Kd.R_reads' (e := 3) (base := w.heap.size) (ok := fun k_ => (((True ∧ some k_ ≠ (.slice Ao18 t293.length co18 : Value).ownBlock) ∧ some k_ ≠ (.slice Ao24 t300.length co24 : Value).ownBlock) ∧ some k_ ≠ (.slice Ao32 t309.length co32 : Value).ownBlock)) (n := t317.length) (c := co40) ?_).2.2; exact (by (with_reducible repeat (first | apply Kd.R_alloc | apply Kd.R_drewN | apply Kd.R_drew)); exact (Kd.R_mono (Kd.R_far (p := ⟨gb324, 2, none⟩) (Kd.R_far (p := ⟨gb324, 1, none⟩) (Kd.R_far (p := ⟨gb324, 0, none⟩) (Kd.R_types HO319.out BK324.out (by decide)) (fun _ hk => by first | exact hk.2 | grind) (.int .i64 t316)) (fun _ hk => by first | exact hk.2 | grind) (.slice Ao40 t317.length co40)) (fun _ hk => by first | exact hk.2 | grind) (.slice Ao41 t320.length co41)) (fun _ h_ => h_.1)))); (case side2 => exact (Kd.R_reads' HO319.out).2.1); (case side3 => refine (Kd.R_reads' (e := 5) (base := w.heap.size) (ok := fun k_ => (((True ∧ some k_ ≠ (.slice Ao19 t296.length co19 : Value).ownBlock) ∧ some k_ ≠ (.slice Ao25 t303.length co25 : Value).ownBlock) ∧ some k_ ≠ (.slice Ao33 t312.length co33 : Value).ownBlock)) (n := t320.length) (c := co41) ?_).2.2; exact (by (with_reducible repeat (first | apply Kd.R_alloc | apply Kd.R_drewN | apply Kd.R_drew)); exact (Kd.R_mono (Kd.R_far (p := ⟨gb324, 2, none⟩) (Kd.R_far (p := ⟨gb324, 1, none⟩) (Kd.R_far (p := ⟨gb324, 0, none⟩) (Kd.R_types HO322.out BK324.out (by decide)) (fun _ hk => by first | exact hk.2 | grind) (.int .i64 t316)) (fun _ hk => by first | exact hk.2 | grind) (.slice Ao40 t317.length co40)) (fun _ hk => by first | exact hk.2 | grind) (.slice Ao41 t320.length co41)) (fun _ h_ => h_.1)))); (case side4 => exact (Kd.R_reads' HO322.out).2.1); (case side5 => refine (Kd.R_reads' (e := 3) (base := w.heap.size) (ok := fun k_ => (((True ∧ some k_ ≠ (.slice Ao18 t293.length co18 : Value).ownBlock) ∧ some k_ ≠ (.slice Ao32 t309.length co32 : Value).ownBlock) ∧ some k_ ≠ (.slice Ao40 t317.length co40 : Value).ownBlock)) (n := t300.length) (c := co24) ?_).2.2; exact (by (with_reducible repeat (first | apply Kd.R_alloc | apply Kd.R_drewN | apply Kd.R_drew)); exact (Kd.R_mono (Kd.R_far (p := ⟨gb324, 2, none⟩) (Kd.R_far (p := ⟨gb324, 1, none⟩) (Kd.R_far (p := ⟨gb324, 0, none⟩) (Kd.R_types HO302.out BK324.out (by decide)) (fun _ hk => by first | exact hk.2 | grind) (.int .i64 t316)) (fun _ hk => by first | exact hk.2 | grind) (.slice Ao40 t317.length co40)) (fun _ hk => by first | exact hk.2 | grind) (.slice Ao41 t320.length co41)) (fun _ h_ => h_.1)))); (case side6 => exact (Kd.R_reads' HO302.out).2.1); (case side7 => refine (Kd.R_reads' (e := 5) (base := w.heap.size) (ok := fun k_ => (((True ∧ some k_ ≠ (.slice Ao19 t296.length co19 : Value).ownBlock) ∧ some k_ ≠ (.slice Ao33 t312.length co33 : Value).ownBlock) ∧ some k_ ≠ (.slice Ao41 t320.length co41 : Value).ownBlock)) (n := t303.length) (c := co25) ?_).2.2; exact (by (with_reducible repeat (first | apply Kd.R_alloc | apply Kd.R_drewN | apply Kd.R_drew)); exact (Kd.R_mono (Kd.R_far (p := ⟨gb324, 2, none⟩) (Kd.R_far (p := ⟨gb324, 1, none⟩) (Kd.R_far (p := ⟨gb324, 0, none⟩) (Kd.R_types HO305.out BK324.out (by decide)) (fun _ hk => by first | exact hk.2 | grind) (.int .i64 t316)) (fun _ hk => by first | exact hk.2 | grind) (.slice Ao40 t317.length co40)) (fun _ hk => by first | exact hk.2 | grind) (.slice Ao41 t320.length co41)) (fun _ h_ => h_.1)))); (case side8 => exact (Kd.R_reads' HO305.out).2.1); rintro e w59 ⟨rfl, hb⟩; refine ⟨_, rfl, ?_⟩; have n0_ := Aside0.mk (Kd.R_below (by (with_reducible repeat (first | apply Kd.R_alloc | apply Kd.R_drewN | apply Kd.R_drew)); exact (Kd.R_mono (Kd.R_far (p := ⟨gb324, 2, none⟩) (Kd.R_far (p := ⟨gb324, 1, none⟩) (Kd.R_far (p := ⟨gb324, 0, none⟩) (Kd.R_types HO295.out BK324.out (by decide)) (fun _ hk => by first | exact hk.2 | grind) (.int .i64 t316)) (fun _ hk => by first | exact hk.2 | grind) (.slice Ao40 t317.length co40)) (fun _ hk => by first | exact hk.2 | grind) (.slice Ao41 t320.length co41)) (fun _ h_ => h_.1))) hb); have n1_ := Aside0.mk (Kd.R_below (by (with_reducible repeat (first | apply Kd.R_alloc | apply Kd.R_drewN | apply Kd.R_drew)); exact (Kd.R_mono (Kd.R_far (p := ⟨gb324, 2, none⟩) (Kd.R_far (p := ⟨gb324, 1, none⟩) (Kd.R_far (p := ⟨gb324, 0, none⟩) (Kd.R_types HO298.out BK324.out (by decide)) (fun _ hk => by first | exact hk.2 | grind) (.int .i64 t316)) (fun _ hk => by first | exact hk.2 | grind) (.slice Ao40 t317.length co40)) (fun _ hk => by first | exact hk.2 | grind) (.slice Ao41 t320.length co41)) (fun _ h_ => h_.1))) hb); have n2_ := Aside0.mk (Kd.R_below (by (with_reducible repeat (first | apply Kd.R_alloc | apply Kd.R_drewN | apply Kd.R_drew)); exact (Kd.R_mono (Kd.R_far (p := ⟨gb324, 2, none⟩) (Kd.R_far (p := ⟨gb324, 1, none⟩) (Kd.R_far (p := ⟨gb324, 0, none⟩) (Kd.R_types HO302.out BK324.out (by decide)) (fun _ hk => by first | exact hk.2 | grind) (.int .i64 t316)) (fun _ hk => by first | exact hk.2 | grind) (.slice Ao40 t317.length co40)) (fun _ hk => by first | exact hk.2 | grind) (.slice Ao41 t320.length co41)) (fun _ h_ => h_.1))) hb); have n3_ := Aside0.mk (Kd.R_below (by (with_reducible repeat (first | apply Kd.R_alloc | apply Kd.R_drewN | apply Kd.R_drew)); exact (Kd.R_mono (Kd.R_far (p := ⟨gb324, 2, none⟩) (Kd.R_far (p := ⟨gb324, 1, none⟩) (Kd.R_far (p := ⟨gb324, 0, none⟩) (Kd.R_types HO305.out BK324.out (by decide)) (fun _ hk => by first | exact hk.2 | grind) (.int .i64 t316)) (fun _ hk => by first | exact hk.2 | grind) (.slice Ao40 t317.length co40)) (fun _ hk => by first | exact hk.2 | grind) (.slice Ao41 t320.length co41)) (fun _ h_ => h_.1))) hb); have n4_ := Aside0.mk (Kd.R_below (by (with_reducible repeat (first | apply Kd.R_alloc | apply Kd.R_drewN | apply Kd.R_drew)); exact (Kd.R_mono (Kd.R_far (p := ⟨gb324, 2, none⟩) (Kd.R_far (p := ⟨gb324, 1, none⟩) (Kd.R_far (p := ⟨gb324, 0, none⟩) (Kd.R_types HO311.out BK324.out (by decide)) (fun _ hk => by first | exact hk.2 | grind) (.int .i64 t316)) (fun _ hk => by first | exact hk.2 | grind) (.slice Ao40 t317.length co40)) (fun _ hk => by first | exact hk.2 | grind) (.slice Ao41 t320.length co41)) (fun _ h_ => h_.1))) hb); have n5_ := Aside0.mk (Kd.R_below (by (with_reducible repeat (first | apply Kd.R_alloc | apply Kd.R_drewN | apply Kd.R_drew)); exact (Kd.R_mono (Kd.R_far (p := ⟨gb324, 2, none⟩) (Kd.R_far (p := ⟨gb324, 1, none⟩) (Kd.R_far (p := ⟨gb324, 0, none⟩) (Kd.R_types HO314.out BK324.out (by decide)) (fun _ hk => by first | exact hk.2 | grind) (.int .i64 t316)) (fun _ hk => by first | exact hk.2 | grind) (.slice Ao40 t317.length co40)) (fun _ hk => by first | exact hk.2 | grind) (.slice Ao41 t320.length co41)) (fun _ h_ => h_.1))) hb); have n6_ := Aside0.mk (Kd.R_below (by (with_reducible repeat (first | apply Kd.R_alloc | apply Kd.R_drewN | apply Kd.R_drew)); exact (Kd.R_mono (Kd.R_far (p := ⟨gb324, 2, none⟩) (Kd.R_far (p := ⟨gb324, 1, none⟩) (Kd.R_far (p := ⟨gb324, 0, none⟩) (Kd.R_types HO319.out BK324.out (by decide)) (fun _ hk => by first | exact hk.2 | grind) (.int .i64 t316)) (fun _ hk => by first | exact hk.2 | grind) (.slice Ao40 t317.length co40)) (fun _ hk => by first | exact hk.2 | grind) (.slice Ao41 t320.length co41)) (fun _ h_ => h_.1))) hb); have n7_ := Aside0.mk (Kd.R_below (by (with_reducible repeat (first | apply Kd.R_alloc | apply Kd.R_drewN | apply Kd.R_drew)); exact (Kd.R_mono (Kd.R_far (p := ⟨gb324, 2, none⟩) (Kd.R_far (p := ⟨gb324, 1, none⟩) (Kd.R_far (p := ⟨gb324, 0, none⟩) (Kd.R_types HO322.out BK324.out (by decide)) (fun _ hk => by first | exact hk.2 | grind) (.int .i64 t316)) (fun _ hk => by first | exact hk.2 | grind) (.slice Ao40 t317.length co40)) (fun _ hk => by first | exact hk.2 | grind) (.slice Ao41 t320.length co41)) (fun _ h_ => h_.1))) hb); have n8_ := Aside0.mk (blk_below (g := gb290) (o := .cells #[.int .i64 a0_0, .slice A0_1 l0_1.length c0_1, .slice A0_2 l0_2.length c0_2] 46 (0, 0)) (by (with_reducible repeat (first | refine blk_drewN ?_ _ | refine blk_drew ?_ | refine blk_alloc ?_ _)); refine blk_far ?_ NB290_324.out _; (with_reducible repeat (first | refine blk_drewN ?_ _ | refine blk_drew ?_ | refine blk_alloc ?_ _)); refine blk_far ?_ NB290_324.out _; (with_reducible repeat (first | refine blk_drewN ?_ _ | refine blk_drew ?_ | refine blk_alloc ?_ _)); refine blk_far ?_ NB290_324.out _; exact bk_ BK290) hb); have n9_ := Aside0.mk (blk_below (g := gb307) (o := .cells #[.int .i64 t299, .slice Ao24 t300.length co24, .slice Ao25 t303.length co25] 36 (0, 0)) (by (with_reducible repeat (first | refine blk_drewN ?_ _ | refine blk_drew ?_ | refine blk_alloc ?_ _)); refine blk_far ?_ NB307_324.out _; (with_reducible repeat (first | refine blk_drewN ?_ _ | refine blk_drew ?_ | refine blk_alloc ?_ _)); refine blk_far ?_ NB307_324.out _; (with_reducible repeat (first | refine blk_drewN ?_ _ | refine blk_drew ?_ | refine blk_alloc ?_ _)); refine blk_far ?_ NB307_324.out _; exact bk_ BK307) hb); have n10_ := Aside0.mk (blk_below (g := gb315) (o := .cells #[.int .i64 t308, .slice Ao32 t309.length co32, .slice Ao33 t312.length co33] 36 (0, 0)) (by (with_reducible repeat (first | refine blk_drewN ?_ _ | refine blk_drew ?_ | refine blk_alloc ?_ _)); refine blk_far ?_ NB315_324.out _; (with_reducible repeat (first | refine blk_drewN ?_ _ | refine blk_drew ?_ | refine blk_alloc ?_ _)); refine blk_far ?_ NB315_324.out _; (with_reducible repeat (first | refine blk_drewN ?_ _ | refine blk_drew ?_ | refine blk_alloc ?_ _)); refine blk_far ?_ NB315_324.out _; exact bk_ BK315) hb); have n11_ := Aside0.mk (blk_below (g := gb324) (o := .cells #[.int .i64 t316, .slice Ao40 t317.length co40, .slice Ao41 t320.length co41] 36 (0, 0)) (by (with_reducible repeat (first | refine blk_drewN ?_ _ | refine blk_drew ?_ | refine blk_alloc ?_ _)); refine blk_put (cs := #[.int .i64 t316, .slice Ao40 t317.length co40, .slice none 0 0]) ?_ 2 _ rfl; (with_reducible repeat (first | refine blk_drewN ?_ _ | refine blk_drew ?_ | refine blk_alloc ?_ _)); refine blk_put (cs := #[.int .i64 t316, .slice none 0 0, .slice none 0 0]) ?_ 1 _ rfl; (with_reducible repeat (first | refine blk_drewN ?_ _ | refine blk_drew ?_ | refine blk_alloc ?_ _)); refine blk_put (cs := #[.int .i64 0, .slice none 0 0, .slice none 0 0]) ?_ 0 _ rfl; exact bk_ BK324) hb); have n12_ := Aside0.mk (below_step (by repeat (first | (with_reducible first | exact HB.out | apply below_alloc | apply pw_below_drewN | apply below_drew1 | refine below_set ?_ GE290.out | refine below_set ?_ GE307.out | refine below_set ?_ GE315.out | refine below_set ?_ GE324.out) | exact HB.out)) hb); clear HO295; clear HO298; clear HO302; clear HO305; clear HO311; clear HO314; clear HO319; clear HO322; clear BK290; clear BK307; clear BK315; clear BK324; clear HB; have HO295 := n0_; have HO298 := n1_; have HO302 := n2_; have HO305 := n3_; have HO311 := n4_; have HO314 := n5_; have HO319 := n6_; have HO322 := n7_; have BK290 := n8_; have BK307 := n9_; have BK315 := n10_; have BK324 := n11_; have HB := n12_; clear n0_ n1_ n2_ n3_ n4_ n5_ n6_ n7_ n8_ n9_ n10_ n11_ n12_; (try clear hb); (try clear hb2); (try clear hk); (try clear hi)))
    go_meet
    case rel => exact ⟨_, (true), (by first | rfl | (simp; done) | (simp [*]; done)), H', ⟨by first | omega | exact Nat.le_refl _⟩, ⟨by (with_reducible repeat (first | apply Kd.R_alloc | apply Kd.R_drewN | apply Kd.R_drew)); exact Kd.R_mono HO302.out (fun _ hk => by first | exact ⟨hk.1.2, hk.2⟩ | grind)⟩, ⟨by (with_reducible repeat (first | apply Kd.R_alloc | apply Kd.R_drewN | apply Kd.R_drew)); exact Kd.R_mono HO305.out (fun _ hk => by first | exact ⟨hk.1.2, hk.2⟩ | grind)⟩, ⟨by (with_reducible repeat (first | apply Kd.R_alloc | apply Kd.R_drewN | apply Kd.R_drew)); exact Kd.R_mono HO311.out (fun _ hk => by first | exact ⟨hk.1.2, hk.2⟩ | grind)⟩, ⟨by (with_reducible repeat (first | apply Kd.R_alloc | apply Kd.R_drewN | apply Kd.R_drew)); exact Kd.R_mono HO314.out (fun _ hk => by first | exact ⟨hk.1.2, hk.2⟩ | grind)⟩, ⟨by (with_reducible repeat (first | apply Kd.R_alloc | apply Kd.R_drewN | apply Kd.R_drew)); exact Kd.R_mono HO319.out (fun _ hk => by first | exact ⟨hk.1.2, hk.2⟩ | grind)⟩, ⟨by (with_reducible repeat (first | apply Kd.R_alloc | apply Kd.R_drewN | apply Kd.R_drew)); exact Kd.R_mono HO322.out (fun _ hk => by first | exact ⟨hk.1.2, hk.2⟩ | grind)⟩, ⟨bk_ BK290⟩, ⟨bk_ BK307⟩, ⟨bk_ BK315⟩, ⟨bk_ BK324⟩, ⟨by repeat (first | (with_reducible first | exact HB.out | apply below_alloc | apply pw_below_drewN | apply below_drew1 | refine below_set ?_ GE290.out | refine below_set ?_ GE307.out | refine below_set ?_ GE315.out | refine below_set ?_ GE324.out) | exact HB.out)⟩⟩
  case rest =>
   clear HC12
   try clear c1
   try clear c2
   try clear p2
   try clear c3
   try clear c4
   try clear c4b0
   try clear c5
   try clear c6
   try clear c15
   try clear c22
   try clear c28
   try clear c29
   try clear c30
   try clear c36
   try clear c37
   try clear c38
   try clear c40
   try clear c43
   try clear c44
   try clear c45
   try clear c46
   try clear c48
   try clear c49
   try clear c52
   try clear c53
   try clear c54
   try clear c56
   try clear c57
   try clear hcz14_0
   try clear hcz14_1
   try clear hcz14_2
   try clear hcz16_0
   try clear hcz16_1
   try clear hcz16_2
   try clear hcz23_0
   try clear hcz23_1
   try clear hcz23_2
   try clear hcz26_0
   try clear hcz26_1
   try clear hcz26_2
   try clear hcz31_0
   try clear hcz31_1
   try clear hcz31_2
   try clear hcz39_0
   try clear hcz39_1
   try clear hcz39_2
   try clear hcz47_0
   try clear hcz47_1
   try clear hcz47_2
   try clear hcz50_0
   try clear hcz50_1
   try clear hcz50_2
   try clear hcz55_0
   try clear hcz55_1
   try clear hcz55_2
   try clear hcz58_0
   try clear hcz58_1
   try clear hcz58_2
   try clear hcz6_0
   try clear hcz6_1
   try clear hcz6_2
   try clear hfz14_0
   try clear hfz14_1
   try clear hfz14_2
   try clear hfz16_0
   try clear hfz16_1
   try clear hfz16_2
   try clear hfz23_0
   try clear hfz23_1
   try clear hfz23_2
   try clear hfz26_0
   try clear hfz26_1
   try clear hfz26_2
   try clear hfz31_0
   try clear hfz31_1
   try clear hfz31_2
   try clear hfz39_0
   try clear hfz39_1
   try clear hfz39_2
   try clear hfz47_0
   try clear hfz47_1
   try clear hfz47_2
   try clear hfz50_0
   try clear hfz50_1
   try clear hfz50_2
   try clear hfz55_0
   try clear hfz55_1
   try clear hfz55_2
   try clear hfz58_0
   try clear hfz58_1
   try clear hfz58_2
   try clear hfz6_0
   try clear hfz6_1
   try clear hfz6_2
   obtain ⟨kq, x44_11, rfl, HA, HJ11, HO_308001, HO_308002, HO_316001, HO_316002, HO_325001, HO_325002, BK290, BK307, BK315, BK324, HB⟩ := hcut
   cases kq with
   | zero => exact absurd HA.out (by simp [laws_FnExactStoreGive.j0])
   | succ kj11 =>
    have H := HA.out
    clear HA
    simp only [laws_FnExactStoreGive.j0] at H
    by_cases c60 : x44_11 = true
    ·subst c60
     have H1 : (some false) = some r := by rw [if_pos rfl] at H; exact H
     clear H
     have H := H1
     clear H1
     obtain rfl := Option.some.inj H
     go_wp2
     go_ret
     exact ⟨by first | rfl | (simp [errW_none, errW_some] <;> rfl) | (simp [*, errW_none, errW_some] <;> rfl), by repeat (first | (with_reducible first | exact HB.out | apply below_alloc | apply pw_below_drewN | apply below_drew1 | refine below_set ?_ GE290.out | refine below_set ?_ GE307.out | refine below_set ?_ GE315.out | refine below_set ?_ GE324.out) | exact HB.out)⟩
    ·replace c60 := Bool.eq_false_iff.mpr c60
     subst c60
     have H1 : ((laws_toStore.f kj11 a0_0 l0_1 l0_2).bind fun bt326 => ((laws_eqStore.f kj11 t308 t309 t312 bt326.1 bt326.2.1 bt326.2.2).bind fun t333 => (if t333 = true then ((laws_markStore.f kj11 t308 t309 t312 1).bind fun bt334 => (if bt334.1 < 0 then (laws_FnExactStoreGive.j1 kj11 a1 t306 true a0_0 l0_1 l0_2 t299 t300 t303 t316 t317 t320) else ((laws_eqStore.f kj11 t316 t317 t320 t299 t300 t303).bind fun t337 => (if t337 = true then (laws_FnExactStoreGive.j1 kj11 a1 t306 (t323 != t306) a0_0 l0_1 l0_2 t299 t300 t303 t316 t317 t320) else (laws_FnExactStoreGive.j1 kj11 a1 t306 true a0_0 l0_1 l0_2 t299 t300 t303 t316 t317 t320))))) else (some false)))) = some r := by rw [if_neg (show ¬ (false = true) by decide)] at H; exact H
     clear H
     have H := H1
     clear H1
     replace H := Option.bind_eq_some_iff.mp H
     obtain ⟨⟨t326, t327, t330⟩, A610, H⟩ := H
     replace H : ((laws_eqStore.f kj11 t308 t309 t312 t326 t327 t330).bind fun t333 => (if t333 = true then ((laws_markStore.f kj11 t308 t309 t312 1).bind fun bt334 => (if bt334.1 < 0 then (laws_FnExactStoreGive.j1 kj11 a1 t306 true a0_0 l0_1 l0_2 t299 t300 t303 t316 t317 t320) else ((laws_eqStore.f kj11 t316 t317 t320 t299 t300 t303).bind fun t337 => (if t337 = true then (laws_FnExactStoreGive.j1 kj11 a1 t306 (t323 != t306) a0_0 l0_1 l0_2 t299 t300 t303 t316 t317 t320) else (laws_FnExactStoreGive.j1 kj11 a1 t306 true a0_0 l0_1 l0_2 t299 t300 t303 t316 t317 t320))))) else (some false))) = some r := H
     have A61 := Aside0.mk A610
     clear A610
     replace H := Option.bind_eq_some_iff.mp H
     obtain ⟨t333, A620, H⟩ := H
     replace H : (if t333 = true then ((laws_markStore.f kj11 t308 t309 t312 1).bind fun bt334 => (if bt334.1 < 0 then (laws_FnExactStoreGive.j1 kj11 a1 t306 true a0_0 l0_1 l0_2 t299 t300 t303 t316 t317 t320) else ((laws_eqStore.f kj11 t316 t317 t320 t299 t300 t303).bind fun t337 => (if t337 = true then (laws_FnExactStoreGive.j1 kj11 a1 t306 (t323 != t306) a0_0 l0_1 l0_2 t299 t300 t303 t316 t317 t320) else (laws_FnExactStoreGive.j1 kj11 a1 t306 true a0_0 l0_1 l0_2 t299 t300 t303 t316 t317 t320))))) else (some false)) = some r := H
     have A62 := Aside0.mk A620
     clear A620
     by_cases c63 : t333 = true
     ·subst c63
      have H1 : ((laws_markStore.f kj11 t308 t309 t312 1).bind fun bt334 => (if bt334.1 < 0 then (laws_FnExactStoreGive.j1 kj11 a1 t306 true a0_0 l0_1 l0_2 t299 t300 t303 t316 t317 t320) else ((laws_eqStore.f kj11 t316 t317 t320 t299 t300 t303).bind fun t337 => (if t337 = true then (laws_FnExactStoreGive.j1 kj11 a1 t306 (t323 != t306) a0_0 l0_1 l0_2 t299 t300 t303 t316 t317 t320) else (laws_FnExactStoreGive.j1 kj11 a1 t306 true a0_0 l0_1 l0_2 t299 t300 t303 t316 t317 t320))))) = some r := by rw [if_pos rfl] at H; exact H
      clear H
      have H := H1
      clear H1
      replace H := Option.bind_eq_some_iff.mp H
      obtain ⟨⟨t334, t335, t336⟩, A640, H⟩ := H
      replace H : (if t334 < 0 then (laws_FnExactStoreGive.j1 kj11 a1 t306 true a0_0 l0_1 l0_2 t299 t300 t303 t316 t317 t320) else ((laws_eqStore.f kj11 t316 t317 t320 t299 t300 t303).bind fun t337 => (if t337 = true then (laws_FnExactStoreGive.j1 kj11 a1 t306 (t323 != t306) a0_0 l0_1 l0_2 t299 t300 t303 t316 t317 t320) else (laws_FnExactStoreGive.j1 kj11 a1 t306 true a0_0 l0_1 l0_2 t299 t300 t303 t316 t317 t320)))) = some r := H
      have A64 := Aside0.mk A640
      clear A640
      have HC65 := Aside0.mk H
      clear H
      try go_wp2
      have n0_ := Aside0.mk (Kd.R_drew HO_308001.out)
      have n1_ := Aside0.mk (Kd.R_drew HO_308002.out)
      have n2_ := Aside0.mk (Kd.R_drew HO_316001.out)
      have n3_ := Aside0.mk (Kd.R_drew HO_316002.out)
      have n4_ := Aside0.mk (Kd.R_drew HO_325001.out)
      have n5_ := Aside0.mk (Kd.R_drew HO_325002.out)
      have n6_ := Aside0.mk (blk_drew BK290.out)
      have n7_ := Aside0.mk (blk_drew BK307.out)
      have n8_ := Aside0.mk (blk_drew BK315.out)
      have n9_ := Aside0.mk (blk_drew BK324.out)
      have n10_ := Aside0.mk (below_drew1 HB.out)
      clear HO_308001
      clear HO_308002
      clear HO_316001
      clear HO_316002
      clear HO_325001
      clear HO_325002
      clear BK290
      clear BK307
      clear BK315
      clear BK324
      clear HB
      have HO_308001 := n0_
      have HO_308002 := n1_
      have HO_316001 := n2_
      have HO_316002 := n3_
      have HO_325001 := n4_
      have HO_325002 := n5_
      have BK290 := n6_
      have BK307 := n7_
      have BK315 := n8_
      have BK324 := n9_
      have HB := n10_
      clear n0_ n1_ n2_ n3_ n4_ n5_ n6_ n7_ n8_ n9_ n10_
      refine start_ (n := 5) (S := fun w' => w'.cell? ⟨gb315, 0, none⟩ = some (.int .i64 t308) ∧ w'.cell? ⟨gb315, 1, none⟩ = some (.slice Ao32 t309.length co32) ∧ w'.cell? ⟨gb315, 2, none⟩ = some (.slice Ao33 t312.length co33) ∧ w'.cell? ⟨gb290, 0, none⟩ = some (.int .i64 a0_0) ∧ w'.cell? ⟨gb290, 1, none⟩ = some (.slice A0_1 l0_1.length c0_1) ∧ w'.cell? ⟨gb290, 2, none⟩ = some (.slice A0_2 l0_2.length c0_2)) (ds := []) (bs 5 0) (by kernel_rfl) rfl rfl ⟨(blk_cell BK315.out 0).trans rfl, (blk_cell BK315.out 1).trans rfl, (blk_cell BK315.out 2).trans rfl, (blk_cell BK290.out 0).trans rfl, (blk_cell BK290.out 1).trans rfl, (blk_cell BK290.out 2).trans rfl⟩ (fun hHeld => ?_)
      generalize wc.drew = w66 at HO_308001 HO_308002 HO_316001 HO_316002 HO_325001 HO_325002 BK290 BK307 BK315 BK324 HB hHeld ⊢
      refine take_ (i := 0) (N := some 45) (v := ?_) (a' := ?_) (bs 5 1) rfl rfl (by kernel_rfl) (fun _ _ _ h => h) (Or.inl ⟨by rfl, ?_⟩) hHeld ?_ ?_
      rotate_left
      ·rintro w' ⟨s0, s1, s2, s3, s4, s5⟩
       go_simp
       with_reducible rfl
      rotate_left
      ·simp only [Act.put, List.setIfInBounds_toArray, List.set_cons_zero, List.set_cons_succ, i64_w, i32_w]
       rfl
      refine take_ (i := 1) (N := some 46) (v := ?_) (a' := ?_) (bs 5 2) rfl rfl (by kernel_rfl) (fun _ _ _ h => h) (Or.inl ⟨by rfl, ?_⟩) hHeld ?_ ?_
      rotate_left
      ·rintro w' ⟨s0, s1, s2, s3, s4, s5⟩
       go_simp
       with_reducible rfl
      rotate_left
      ·simp only [Act.put, List.setIfInBounds_toArray, List.set_cons_zero, List.set_cons_succ, i64_w, i32_w]
       rfl
      refine one_ (i := 2) (N := some 47) (bs 5 3) rfl rfl (by kernel_rfl) (by decide) (fun K hK => ?_)
      refine goes_ Try.func40 (by kernel_rfl) rfl #[.agg #[.int .i64 a0_0, .slice A0_1 l0_1.length c0_1, .slice A0_2 l0_2.length c0_2]] (by rfl) rfl rfl mt_ ?_
      with_reducible refine (laws_toStore.calls kj11 a0_0 _ _ l0_1 _ _ l0_2 t326 t327 t330 _ ?side1 ?side2 ?side3 ?side4 A61.out).mono ?_
      (case side1 => repeat (first | exact (Kd.C_below HR0_1.out HB.out) | (with_reducible refine Kd.C_alloc ?_ _) | (with_reducible refine Kd.C_drewN ?_ _) | (with_reducible refine Kd.C_drew ?_)))
      (case side2 => exact HC0_1.out)
      (case side3 => repeat (first | exact (Kd.C_below HR0_2.out HB.out) | (with_reducible refine Kd.C_alloc ?_ _) | (with_reducible refine Kd.C_drewN ?_ _) | (with_reducible refine Kd.C_drew ?_)))
      (case side4 => exact HC0_2.out)
      rintro e w67 ⟨v328, v331, rfl, ho0, ho1, hb⟩
      refine ⟨_, rfl, ?_⟩
      have n0_ := Aside0.mk (Kd.R_elder' (kr_ HO_308001) (Kd.R_base ho0) hb)
      have n1_ := Aside0.mk (Kd.R_elder' (kr_ HO_308002) (Kd.R_base ho1) hb)
      have n2_ := Aside0.mk (Kd.R_elder' (kr_ HO_316001) (Kd.R_base ho0) hb)
      have n3_ := Aside0.mk (Kd.R_elder' (kr_ HO_316002) (Kd.R_base ho1) hb)
      have n4_ := Aside0.mk (Kd.R_elder' (kr_ HO_325001) (Kd.R_base ho0) hb)
      have n5_ := Aside0.mk (Kd.R_elder' (kr_ HO_325002) (Kd.R_base ho1) hb)
      have n6_ := Aside0.mk (Kd.R_lower (Kd.R_new' (Kd.R_new' (Kd.R_new' ho0 (Kd.R_lt (kr_ HO_308001))) (Kd.R_lt (kr_ HO_316001))) (Kd.R_lt (kr_ HO_325001))) (below_size (by repeat (first | (with_reducible first | exact HB.out | apply below_alloc | apply pw_below_drewN | apply below_drew1 | refine below_set ?_ GE290.out | refine below_set ?_ GE307.out | refine below_set ?_ GE315.out | refine below_set ?_ GE324.out) | exact HB.out))))
      have n7_ := Aside0.mk (Kd.R_lower (Kd.R_new' (Kd.R_new' (Kd.R_new' ho1 (Kd.R_lt (kr_ HO_308002))) (Kd.R_lt (kr_ HO_316002))) (Kd.R_lt (kr_ HO_325002))) (below_size (by repeat (first | (with_reducible first | exact HB.out | apply below_alloc | apply pw_below_drewN | apply below_drew1 | refine below_set ?_ GE290.out | refine below_set ?_ GE307.out | refine below_set ?_ GE315.out | refine below_set ?_ GE324.out) | exact HB.out))))
      have n8_ := Aside0.mk (blk_below (g := gb290) (o := .cells #[.int .i64 a0_0, .slice A0_1 l0_1.length c0_1, .slice A0_2 l0_2.length c0_2] 46 (0, 0)) (bk_ BK290) hb)
      have n9_ := Aside0.mk (blk_below (g := gb307) (o := .cells #[.int .i64 t299, .slice Ao24 t300.length co24, .slice Ao25 t303.length co25] 36 (0, 0)) (bk_ BK307) hb)
      have n10_ := Aside0.mk (blk_below (g := gb315) (o := .cells #[.int .i64 t308, .slice Ao32 t309.length co32, .slice Ao33 t312.length co33] 36 (0, 0)) (bk_ BK315) hb)
      have n11_ := Aside0.mk (blk_below (g := gb324) (o := .cells #[.int .i64 t316, .slice Ao40 t317.length co40, .slice Ao41 t320.length co41] 36 (0, 0)) (bk_ BK324) hb)
      have n12_ := Aside0.mk (below_step (by repeat (first | (with_reducible first | exact HB.out | apply below_alloc | apply pw_below_drewN | apply below_drew1 | refine below_set ?_ GE290.out | refine below_set ?_ GE307.out | refine below_set ?_ GE315.out | refine below_set ?_ GE324.out) | exact HB.out)) hb)
      clear HO_308001
      clear HO_308002
      clear HO_316001
      clear HO_316002
      clear HO_325001
      clear HO_325002
      clear BK290
      clear BK307
      clear BK315
      clear BK324
      clear HB
      have HO_308001 := n0_
      have HO_308002 := n1_
      have HO_316001 := n2_
      have HO_316002 := n3_
      have HO_325001 := n4_
      have HO_325002 := n5_
      have HO329 := n6_
      have HO332 := n7_
      have BK290 := n8_
      have BK307 := n9_
      have BK315 := n10_
      have BK324 := n11_
      have HB := n12_
      clear n0_ n1_ n2_ n3_ n4_ n5_ n6_ n7_ n8_ n9_ n10_ n11_ n12_
      (try clear hb)
      (try clear hb2)
      (try clear hk)
      (try clear hi)
      (try clear ho0)
      (try clear ho1)
      obtain ⟨Ao68, co68, eo68⟩ := Kd.R_slice HO329.out
      (first | subst eo68 | (injection eo68 with f1_ f2_ f3_; have f4_ := f1_.symm; have f5_ := f3_.symm; clear f1_ f2_ f3_; subst f4_; subst f5_))
      obtain ⟨Ao69, co69, eo69⟩ := Kd.R_slice HO332.out
      (first | subst eo69 | (injection eo69 with f1_ f2_ f3_; have f4_ := f1_.symm; have f5_ := f3_.symm; clear f1_ f2_ f3_; subst f4_; subst f5_))
      refine hK.out _ _ ⟨(blk_cell BK315.out 0).trans rfl, (blk_cell BK315.out 1).trans rfl, (blk_cell BK315.out 2).trans rfl, (blk_cell BK290.out 0).trans rfl, (blk_cell BK290.out 1).trans rfl, (blk_cell BK290.out 2).trans rfl⟩ (fun hHeld => ?_)
      clear hK K
      refine norm_ (a' := ?_) ?_ ?_
      rotate_left
      ·show Act.put _ (some 47) _ = _
       simp only [Act.put, List.setIfInBounds_toArray, List.set_cons_zero, List.set_cons_succ, i64_w, i32_w]
       rfl
      refine one_ (i := 3) (N := some 48) (bs 5 4) rfl rfl (by kernel_rfl) (by decide) (fun K hK => ?_)
      refine goes_ Try.func28 (by kernel_rfl) rfl #[.agg #[.int .i64 t308, .slice Ao32 t309.length co32, .slice Ao33 t312.length co33], .agg #[.int .i64 t326, .slice Ao68 t327.length co68, .slice Ao69 t330.length co69]] (by rfl) rfl rfl mt_ ?_
      with_reducible refine (laws_eqStore.calls kj11 t308 _ _ t309 _ _ t312 t326 _ _ t327 _ _ t330 true _ ?side1 ?side2 ?side3 ?side4 ?side5 ?side6 ?side7 ?side8 A62.out).mono ?_
      (case side1 => repeat (first | exact (Kd.R_reads' HO_316001.out).2.2 | (with_reducible refine Kd.C_alloc ?_ _) | (with_reducible refine Kd.C_drewN ?_ _) | (with_reducible refine Kd.C_drew ?_)))
      (case side2 => exact (Kd.R_reads' HO_316001.out).2.1)
      (case side3 => repeat (first | exact (Kd.R_reads' HO_316002.out).2.2 | (with_reducible refine Kd.C_alloc ?_ _) | (with_reducible refine Kd.C_drewN ?_ _) | (with_reducible refine Kd.C_drew ?_)))
      (case side4 => exact (Kd.R_reads' HO_316002.out).2.1)
      (case side5 => repeat (first | exact (Kd.R_reads' HO329.out).2.2 | (with_reducible refine Kd.C_alloc ?_ _) | (with_reducible refine Kd.C_drewN ?_ _) | (with_reducible refine Kd.C_drew ?_)))
      (case side6 => exact (Kd.R_reads' HO329.out).2.1)
      (case side7 => repeat (first | exact (Kd.R_reads' HO332.out).2.2 | (with_reducible refine Kd.C_alloc ?_ _) | (with_reducible refine Kd.C_drewN ?_ _) | (with_reducible refine Kd.C_drew ?_)))
      (case side8 => exact (Kd.R_reads' HO332.out).2.1)
      rintro e w70 ⟨rfl, hb⟩
      refine ⟨_, rfl, ?_⟩
      have n0_ := Aside0.mk (Kd.R_below (kr_ HO_308001) hb)
      have n1_ := Aside0.mk (Kd.R_below (kr_ HO_308002) hb)
      have n2_ := Aside0.mk (Kd.R_below (kr_ HO_316001) hb)
      have n3_ := Aside0.mk (Kd.R_below (kr_ HO_316002) hb)
      have n4_ := Aside0.mk (Kd.R_below (kr_ HO_325001) hb)
      have n5_ := Aside0.mk (Kd.R_below (kr_ HO_325002) hb)
      have n6_ := Aside0.mk (Kd.R_below (kr_ HO329) hb)
      have n7_ := Aside0.mk (Kd.R_below (kr_ HO332) hb)
      have n8_ := Aside0.mk (blk_below (g := gb290) (o := .cells #[.int .i64 a0_0, .slice A0_1 l0_1.length c0_1, .slice A0_2 l0_2.length c0_2] 46 (0, 0)) (bk_ BK290) hb)
      have n9_ := Aside0.mk (blk_below (g := gb307) (o := .cells #[.int .i64 t299, .slice Ao24 t300.length co24, .slice Ao25 t303.length co25] 36 (0, 0)) (bk_ BK307) hb)
      have n10_ := Aside0.mk (blk_below (g := gb315) (o := .cells #[.int .i64 t308, .slice Ao32 t309.length co32, .slice Ao33 t312.length co33] 36 (0, 0)) (bk_ BK315) hb)
      have n11_ := Aside0.mk (blk_below (g := gb324) (o := .cells #[.int .i64 t316, .slice Ao40 t317.length co40, .slice Ao41 t320.length co41] 36 (0, 0)) (bk_ BK324) hb)
      have n12_ := Aside0.mk (below_step (by repeat (first | (with_reducible first | exact HB.out | apply below_alloc | apply pw_below_drewN | apply below_drew1 | refine below_set ?_ GE290.out | refine below_set ?_ GE307.out | refine below_set ?_ GE315.out | refine below_set ?_ GE324.out) | exact HB.out)) hb)
      clear HO_308001
      clear HO_308002
      clear HO_316001
      clear HO_316002
      clear HO_325001
      clear HO_325002
      clear HO329
      clear HO332
      clear BK290
      clear BK307
      clear BK315
      clear BK324
      clear HB
      have HO_308001 := n0_
      have HO_308002 := n1_
      have HO_316001 := n2_
      have HO_316002 := n3_
      have HO_325001 := n4_
      have HO_325002 := n5_
      have HO329 := n6_
      have HO332 := n7_
      have BK290 := n8_
      have BK307 := n9_
      have BK315 := n10_
      have BK324 := n11_
      have HB := n12_
      clear n0_ n1_ n2_ n3_ n4_ n5_ n6_ n7_ n8_ n9_ n10_ n11_ n12_
      (try clear hb)
      (try clear hb2)
      (try clear hk)
      (try clear hi)
      refine hK.out _ _ ⟨(blk_cell BK315.out 0).trans rfl, (blk_cell BK315.out 1).trans rfl, (blk_cell BK315.out 2).trans rfl, (blk_cell BK290.out 0).trans rfl, (blk_cell BK290.out 1).trans rfl, (blk_cell BK290.out 2).trans rfl⟩ (fun hHeld => ?_)
      clear hK K
      refine norm_ (a' := ?_) ?_ ?_
      rotate_left
      ·show Act.put _ (some 48) _ = _
       simp only [Act.put, List.setIfInBounds_toArray, List.set_cons_zero, List.set_cons_succ, i64_w, i32_w]
       rfl
      refine pure_s (i := 4) (N := some 49) (bs 5 5) (by kernel_rfl) (h := ?_)
      refine done_ (by kernel_rfl) ?_
      have hnb71 := NB315_290.out
      have hnc71 := NB290_315.out
      have hnb72 := NB315_307.out
      have hnc72 := NB307_315.out
      have hnb73 := NB315_324.out
      have hnc73 := NB324_315.out
      have hcz74_0 : w70.cell? ⟨gb315, 0, none⟩ = some (.int .i64 t308) := (blk_cell BK315.out 0).trans rfl
      have hcz74_1 : w70.cell? ⟨gb315, 1, none⟩ = some (.slice Ao32 t309.length co32) := (blk_cell BK315.out 1).trans rfl
      have hcz74_2 : w70.cell? ⟨gb315, 2, none⟩ = some (.slice Ao33 t312.length co33) := (blk_cell BK315.out 2).trans rfl
      have hfz74_0 := blk_frozen BK315.out 0
      have hfz74_1 := blk_frozen BK315.out 1
      have hfz74_2 := blk_frozen BK315.out 2
      go_upto_region 14 with (first | ((with_reducible refine gate_callee (f := 29) rfl ?_); refine goesL_ (some 52) rfl rfl Try.func29 (by kernel_rfl) rfl #[.agg #[.int .i64 t308, .slice Ao32 t309.length co32, .slice Ao33 t312.length co33], .int .i64 1] rfl mt_ ?_; (with_reducible refine (laws_markStore.calls kj11 t308 (fun k_ => some k_ = (.slice Ao32 t309.length co32 : Value).ownBlock) (.slice Ao32 t309.length co32) t309 (fun k_ => some k_ = (.slice Ao33 t312.length co33 : Value).ownBlock) (.slice Ao33 t312.length co33) t312 1 t334 t335 t336 w _ ?side1 ?side2 ?side3 A64.out).mono ?_); (case side1 => repeat (first | (with_reducible first | exact HB.out | apply below_alloc | apply pw_below_drewN | apply below_drew1 | refine below_set ?_ GE290.out | refine below_set ?_ GE307.out | refine below_set ?_ GE315.out | refine below_set ?_ GE324.out) | exact HB.out)); (case side2 => exact Kd.R_tight rfl HO_316001.out); (case side3 => exact Kd.R_tight rfl HO_316002.out); rintro e w75 ⟨rfl, hy0, hy1, hb, hkp⟩; refine ⟨_, rfl, ?_⟩; have n0_ := Aside0.mk (Kd.R_mono (ok' := fun k_ => some k_ ≠ (.slice Ao32 t309.length co32 : Value).ownBlock ∧ some k_ ≠ (.slice Ao40 t317.length co40 : Value).ownBlock ∧ some k_ ≠ (.slice Ao68 t327.length co68 : Value).ownBlock) (Kd.R_keptB ((Kd.R_apart' HO_308001.out (Kd.R_typed HO_316002.out) (by decide))) hkp (fun k_ hk_ hs_ => Or.elim hs_ (fun e_ => (hk_.1.1.1) e_) (fun e_ => (hk_.2) e_))) (fun k_ hk_ => by first | exact ⟨hk_.1.1.1.1, hk_.1.1.1.2, hk_.1.1.2⟩ | grind)); have n1_ := Aside0.mk (Kd.R_mono (ok' := fun k_ => some k_ ≠ (.slice Ao33 t312.length co33 : Value).ownBlock ∧ some k_ ≠ (.slice Ao41 t320.length co41 : Value).ownBlock ∧ some k_ ≠ (.slice Ao69 t330.length co69 : Value).ownBlock) (Kd.R_keptB ((Kd.R_apart' HO_308002.out (Kd.R_typed HO_316001.out) (by decide))) hkp (fun k_ hk_ hs_ => Or.elim hs_ (fun e_ => (hk_.2) e_) (fun e_ => (hk_.1.1.1) e_))) (fun k_ hk_ => by first | exact ⟨hk_.1.1.1.1, hk_.1.1.1.2, hk_.1.1.2⟩ | grind)); have n2_ := Aside0.mk (Kd.R_reok rfl hy0 (fun k_ e_ => HO_316001.out.1 k_ e_)); have n3_ := Aside0.mk (Kd.R_reok rfl hy1 (fun k_ e_ => HO_316002.out.1 k_ e_)); have n4_ := Aside0.mk (Kd.R_mono (ok' := fun k_ => some k_ ≠ (.slice Ao24 t300.length co24 : Value).ownBlock ∧ some k_ ≠ (.slice Ao32 t309.length co32 : Value).ownBlock ∧ some k_ ≠ (.slice Ao68 t327.length co68 : Value).ownBlock) (Kd.R_keptB ((Kd.R_apart' HO_325001.out (Kd.R_typed HO_316002.out) (by decide))) hkp (fun k_ hk_ hs_ => Or.elim hs_ (fun e_ => (hk_.1.1.2) e_) (fun e_ => (hk_.2) e_))) (fun k_ hk_ => by first | exact ⟨hk_.1.1.1.1, hk_.1.1.1.2, hk_.1.1.2⟩ | grind)); have n5_ := Aside0.mk (Kd.R_mono (ok' := fun k_ => some k_ ≠ (.slice Ao25 t303.length co25 : Value).ownBlock ∧ some k_ ≠ (.slice Ao33 t312.length co33 : Value).ownBlock ∧ some k_ ≠ (.slice Ao69 t330.length co69 : Value).ownBlock) (Kd.R_keptB ((Kd.R_apart' HO_325002.out (Kd.R_typed HO_316001.out) (by decide))) hkp (fun k_ hk_ hs_ => Or.elim hs_ (fun e_ => (hk_.2) e_) (fun e_ => (hk_.1.1.2) e_))) (fun k_ hk_ => by first | exact ⟨hk_.1.1.1.1, hk_.1.1.1.2, hk_.1.1.2⟩ | grind)); have n6_ := Aside0.mk (blk_kept (bk_ BK290) hkp (fun hs_ => Or.elim hs_ (fun e_ => (fun e_ => (Kd.R_ne HO_316001.out BK290.out (by decide)) e_) e_) (fun e_ => (fun e_ => (Kd.R_ne HO_316002.out BK290.out (by decide)) e_) e_))); have n7_ := Aside0.mk (blk_kept (bk_ BK307) hkp (fun hs_ => Or.elim hs_ (fun e_ => (fun e_ => (Kd.R_ne HO_316001.out BK307.out (by decide)) e_) e_) (fun e_ => (fun e_ => (Kd.R_ne HO_316002.out BK307.out (by decide)) e_) e_))); have n8_ := Aside0.mk (blk_kept (bk_ BK315) hkp (fun hs_ => Or.elim hs_ (fun e_ => (fun e_ => (Kd.R_ne HO_316001.out BK315.out (by decide)) e_) e_) (fun e_ => (fun e_ => (Kd.R_ne HO_316002.out BK315.out (by decide)) e_) e_))); have n9_ := Aside0.mk (blk_kept (bk_ BK324) hkp (fun hs_ => Or.elim hs_ (fun e_ => (fun e_ => (Kd.R_ne HO_316001.out BK324.out (by decide)) e_) e_) (fun e_ => (fun e_ => (Kd.R_ne HO_316002.out BK324.out (by decide)) e_) e_))); have n10_ := Aside0.mk (Kd.R_mono (ok' := fun k_ => some k_ ≠ (.slice Ao24 t300.length co24 : Value).ownBlock ∧ some k_ ≠ (.slice Ao32 t309.length co32 : Value).ownBlock ∧ some k_ ≠ (.slice Ao40 t317.length co40 : Value).ownBlock) (Kd.R_keptB ((Kd.R_apart' HO329.out (Kd.R_typed HO_316002.out) (by decide))) hkp (fun k_ hk_ hs_ => Or.elim hs_ (fun e_ => (hk_.1.1.2) e_) (fun e_ => (hk_.2) e_))) (fun k_ hk_ => by first | exact ⟨hk_.1.1.1.1.2, hk_.1.1.1.2, hk_.1.1.2⟩ | grind)); have n11_ := Aside0.mk (Kd.R_mono (ok' := fun k_ => some k_ ≠ (.slice Ao25 t303.length co25 : Value).ownBlock ∧ some k_ ≠ (.slice Ao33 t312.length co33 : Value).ownBlock ∧ some k_ ≠ (.slice Ao41 t320.length co41 : Value).ownBlock) (Kd.R_keptB ((Kd.R_apart' HO332.out (Kd.R_typed HO_316001.out) (by decide))) hkp (fun k_ hk_ hs_ => Or.elim hs_ (fun e_ => (hk_.2) e_) (fun e_ => (hk_.1.1.2) e_))) (fun k_ hk_ => by first | exact ⟨hk_.1.1.1.1.2, hk_.1.1.1.2, hk_.1.1.2⟩ | grind)); have n12_ := Aside0.mk (hb); clear HO_308001; clear HO_308002; clear HO_316001; clear HO_316002; clear HO_325001; clear HO_325002; clear BK290; clear BK307; clear BK315; clear BK324; clear HO329; clear HO332; clear HB; have HO_308001 := n0_; have HO_308002 := n1_; have HO_316001 := n2_; have HO_316002 := n3_; have HO_325001 := n4_; have HO_325002 := n5_; have BK290 := n6_; have BK307 := n7_; have BK315 := n8_; have BK324 := n9_; have HO329 := n10_; have HO332 := n11_; have HB := n12_; clear n0_ n1_ n2_ n3_ n4_ n5_ n6_ n7_ n8_ n9_ n10_ n11_ n12_; (try clear hb); (try clear hkp); (try clear hy0); (try clear hy1)))
      (try simp only [Act.put, List.setIfInBounds_toArray, List.set_cons_zero, List.set_cons_succ])
      go_cut [65] (fun v65 wc => ∃ (kq : Nat) (x65_64 : Bool), v65 = .bool x65_64 ∧ Aside0 (laws_FnExactStoreGive.j1 kq a1 t306 x65_64 a0_0 l0_1 l0_2 t299 t300 t303 t316 t317 t320 = some r) ∧ Aside0 (kq ≤ kj11) ∧ Aside0 (Kd.R (Kd.int .i64) 3 wc w.heap.size (fun k_ => some k_ ≠ ((.slice Ao32 t309.length co32) : Value).ownBlock ∧ some k_ ≠ ((.slice Ao40 t317.length co40) : Value).ownBlock) (.slice Ao24 t300.length co24) t300) ∧ Aside0 (Kd.R (Kd.int .u8) 5 wc w.heap.size (fun k_ => some k_ ≠ ((.slice Ao33 t312.length co33) : Value).ownBlock ∧ some k_ ≠ ((.slice Ao41 t320.length co41) : Value).ownBlock) (.slice Ao25 t303.length co25) t303) ∧ Aside0 (Kd.R (Kd.int .i64) 3 wc w.heap.size (fun k_ => some k_ ≠ ((.slice Ao24 t300.length co24) : Value).ownBlock ∧ some k_ ≠ ((.slice Ao40 t317.length co40) : Value).ownBlock) (.slice Ao32 t309.length co32) t335) ∧ Aside0 (Kd.R (Kd.int .u8) 5 wc w.heap.size (fun k_ => some k_ ≠ ((.slice Ao25 t303.length co25) : Value).ownBlock ∧ some k_ ≠ ((.slice Ao41 t320.length co41) : Value).ownBlock) (.slice Ao33 t312.length co33) t336) ∧ Aside0 (Kd.R (Kd.int .i64) 3 wc w.heap.size (fun k_ => some k_ ≠ ((.slice Ao24 t300.length co24) : Value).ownBlock ∧ some k_ ≠ ((.slice Ao32 t309.length co32) : Value).ownBlock) (.slice Ao40 t317.length co40) t317) ∧ Aside0 (Kd.R (Kd.int .u8) 5 wc w.heap.size (fun k_ => some k_ ≠ ((.slice Ao25 t303.length co25) : Value).ownBlock ∧ some k_ ≠ ((.slice Ao33 t312.length co33) : Value).ownBlock) (.slice Ao41 t320.length co41) t320) ∧ Aside0 (wc.heap[gb290]? = some (.cells #[.int .i64 a0_0, (.slice A0_1 l0_1.length c0_1), (.slice A0_2 l0_2.length c0_2)] 46 (0, 0))) ∧ Aside0 (wc.heap[gb307]? = some (.cells #[.int .i64 t299, (.slice Ao24 t300.length co24), (.slice Ao25 t303.length co25)] 36 (0, 0))) ∧ Aside0 (wc.heap[gb315]? = some (.cells #[.int .i64 t308, (.slice Ao32 t309.length co32), (.slice Ao33 t312.length co33)] 36 (0, 0))) ∧ Aside0 (wc.heap[gb324]? = some (.cells #[.int .i64 t316, (.slice Ao40 t317.length co40), (.slice Ao41 t320.length co41)] 36 (0, 0))) ∧ Aside0 (Below w.heap.size w wc))
      case first =>
       have H := HC65.out
       clear HC65
       by_cases c76 : t334 < 0
       ·rw [if_pos c76] at H
        have c76b0 : decide (t334 < 0) = true := decide_eq_true c76
        clear c76
        (first | rw [c76b0] | (simp only [i64_w, i32_w]; rw [c76b0]) | skip)
        have H' := Aside0.mk H
        clear H
        go_wp2
        go_meet
        case rel => exact ⟨_, (true), (by first | rfl | (simp; done) | (simp [*]; done)), H', ⟨by have := HJ11.out; first | omega | exact Nat.le_refl _⟩, ⟨by (with_reducible repeat (first | apply Kd.R_alloc | apply Kd.R_drewN | apply Kd.R_drew)); exact Kd.R_mono HO_308001.out (fun _ hk => by first | exact ⟨hk.1, hk.2.1⟩ | grind)⟩, ⟨by (with_reducible repeat (first | apply Kd.R_alloc | apply Kd.R_drewN | apply Kd.R_drew)); exact Kd.R_mono HO_308002.out (fun _ hk => by first | exact ⟨hk.1, hk.2.1⟩ | grind)⟩, ⟨by (with_reducible repeat (first | apply Kd.R_alloc | apply Kd.R_drewN | apply Kd.R_drew)); exact Kd.R_mono HO_316001.out (fun _ hk => by first | exact ⟨hk.1.1, hk.1.2⟩ | grind)⟩, ⟨by (with_reducible repeat (first | apply Kd.R_alloc | apply Kd.R_drewN | apply Kd.R_drew)); exact Kd.R_mono HO_316002.out (fun _ hk => by first | exact ⟨hk.1.1, hk.1.2⟩ | grind)⟩, ⟨by (with_reducible repeat (first | apply Kd.R_alloc | apply Kd.R_drewN | apply Kd.R_drew)); exact Kd.R_mono HO_325001.out (fun _ hk => by first | exact ⟨hk.1, hk.2.1⟩ | grind)⟩, ⟨by (with_reducible repeat (first | apply Kd.R_alloc | apply Kd.R_drewN | apply Kd.R_drew)); exact Kd.R_mono HO_325002.out (fun _ hk => by first | exact ⟨hk.1, hk.2.1⟩ | grind)⟩, ⟨bk_ BK290⟩, ⟨bk_ BK307⟩, ⟨bk_ BK315⟩, ⟨bk_ BK324⟩, ⟨by repeat (first | (with_reducible first | exact HB.out | apply below_alloc | apply pw_below_drewN | apply below_drew1 | refine below_set ?_ GE290.out | refine below_set ?_ GE307.out | refine below_set ?_ GE315.out | refine below_set ?_ GE324.out) | exact HB.out)⟩⟩
       ·rw [if_neg c76] at H
        have c76b0 : decide (t334 < 0) = false := decide_eq_false c76
        clear c76
        (first | rw [c76b0] | (simp only [i64_w, i32_w]; rw [c76b0]) | skip)
        replace H := Option.bind_eq_some_iff.mp H
        obtain ⟨t337, A770, H⟩ := H
        replace H : (if t337 = true then (laws_FnExactStoreGive.j1 kj11 a1 t306 (t323 != t306) a0_0 l0_1 l0_2 t299 t300 t303 t316 t317 t320) else (laws_FnExactStoreGive.j1 kj11 a1 t306 true a0_0 l0_1 l0_2 t299 t300 t303 t316 t317 t320)) = some r := H
        have A77 := Aside0.mk A770
        clear A770
        by_cases c78 : t337 = true
        ·subst c78
         have H1 : (laws_FnExactStoreGive.j1 kj11 a1 t306 (t323 != t306) a0_0 l0_1 l0_2 t299 t300 t303 t316 t317 t320) = some r := by rw [if_pos rfl] at H; exact H
         clear H
         have H := H1
         clear H1
         have H' := Aside0.mk H
         clear H
         have hnb79 := NB324_290.out
         have hnc79 := NB290_324.out
         have hnb80 := NB324_307.out
         have hnc80 := NB307_324.out
         have hnb81 := NB324_315.out
         have hnc81 := NB315_324.out
         have hcz82_0 : w75.cell? ⟨gb324, 0, none⟩ = some (.int .i64 t316) := (blk_cell BK324.out 0).trans rfl
         have hcz82_1 : w75.cell? ⟨gb324, 1, none⟩ = some (.slice Ao40 t317.length co40) := (blk_cell BK324.out 1).trans rfl
         have hcz82_2 : w75.cell? ⟨gb324, 2, none⟩ = some (.slice Ao41 t320.length co41) := (blk_cell BK324.out 2).trans rfl
         have hfz82_0 := blk_frozen BK324.out 0
         have hfz82_1 := blk_frozen BK324.out 1
         have hfz82_2 := blk_frozen BK324.out 2
         have hnb83 := NB307_290.out
         have hnc83 := NB290_307.out
         have hnb84 := NB307_315.out
         have hnc84 := NB315_307.out
         have hcz85_0 : w75.cell? ⟨gb307, 0, none⟩ = some (.int .i64 t299) := (blk_cell BK307.out 0).trans rfl
         have hcz85_1 : w75.cell? ⟨gb307, 1, none⟩ = some (.slice Ao24 t300.length co24) := (blk_cell BK307.out 1).trans rfl
         have hcz85_2 : w75.cell? ⟨gb307, 2, none⟩ = some (.slice Ao25 t303.length co25) := (blk_cell BK307.out 2).trans rfl
         have hfz85_0 := blk_frozen BK307.out 0
         have hfz85_1 := blk_frozen BK307.out 1
         have hfz85_2 := blk_frozen BK307.out 2
         go_wp2_with (first | (go_at_call 28; (with_reducible refine (laws_eqStore.calls kj11 t316 _ _ t317 _ _ t320 t299 _ _ t300 _ _ t303 true _ ?side1 ?side2 ?side3 ?side4 ?side5 ?side6 ?side7 ?side8 A77.out).mono ?_); (case side1 => repeat (first | exact (Kd.R_reads' HO_325001.out).2.2 | (with_reducible refine Kd.C_alloc ?_ _) | (with_reducible refine Kd.C_drewN ?_ _) | (with_reducible refine Kd.C_drew ?_))); (case side2 => exact (Kd.R_reads' HO_325001.out).2.1); (case side3 => repeat (first | exact (Kd.R_reads' HO_325002.out).2.2 | (with_reducible refine Kd.C_alloc ?_ _) | (with_reducible refine Kd.C_drewN ?_ _) | (with_reducible refine Kd.C_drew ?_))); (case side4 => exact (Kd.R_reads' HO_325002.out).2.1); (case side5 => repeat (first | exact (Kd.R_reads' HO_308001.out).2.2 | (with_reducible refine Kd.C_alloc ?_ _) | (with_reducible refine Kd.C_drewN ?_ _) | (with_reducible refine Kd.C_drew ?_))); (case side6 => exact (Kd.R_reads' HO_308001.out).2.1); (case side7 => repeat (first | exact (Kd.R_reads' HO_308002.out).2.2 | (with_reducible refine Kd.C_alloc ?_ _) | (with_reducible refine Kd.C_drewN ?_ _) | (with_reducible refine Kd.C_drew ?_))); (case side8 => exact (Kd.R_reads' HO_308002.out).2.1); rintro e w86 ⟨rfl, hb⟩; have n0_ := Aside0.mk (Kd.R_below (kr_ HO_308001) hb); have n1_ := Aside0.mk (Kd.R_below (kr_ HO_308002) hb); have n2_ := Aside0.mk (Kd.R_below (kr_ HO_316001) hb); have n3_ := Aside0.mk (Kd.R_below (kr_ HO_316002) hb); have n4_ := Aside0.mk (Kd.R_below (kr_ HO_325001) hb); have n5_ := Aside0.mk (Kd.R_below (kr_ HO_325002) hb); have n6_ := Aside0.mk (Kd.R_below (kr_ HO329) hb); have n7_ := Aside0.mk (Kd.R_below (kr_ HO332) hb); have n8_ := Aside0.mk (blk_below (g := gb290) (o := .cells #[.int .i64 a0_0, .slice A0_1 l0_1.length c0_1, .slice A0_2 l0_2.length c0_2] 46 (0, 0)) (bk_ BK290) hb); have n9_ := Aside0.mk (blk_below (g := gb307) (o := .cells #[.int .i64 t299, .slice Ao24 t300.length co24, .slice Ao25 t303.length co25] 36 (0, 0)) (bk_ BK307) hb); have n10_ := Aside0.mk (blk_below (g := gb315) (o := .cells #[.int .i64 t308, .slice Ao32 t309.length co32, .slice Ao33 t312.length co33] 36 (0, 0)) (bk_ BK315) hb); have n11_ := Aside0.mk (blk_below (g := gb324) (o := .cells #[.int .i64 t316, .slice Ao40 t317.length co40, .slice Ao41 t320.length co41] 36 (0, 0)) (bk_ BK324) hb); have n12_ := Aside0.mk (below_step (by repeat (first | (with_reducible first | exact HB.out | apply below_alloc | apply pw_below_drewN | apply below_drew1 | refine below_set ?_ GE290.out | refine below_set ?_ GE307.out | refine below_set ?_ GE315.out | refine below_set ?_ GE324.out) | exact HB.out)) hb); clear HO_308001; clear HO_308002; clear HO_316001; clear HO_316002; clear HO_325001; clear HO_325002; clear HO329; clear HO332; clear BK290; clear BK307; clear BK315; clear BK324; clear HB; have HO_308001 := n0_; have HO_308002 := n1_; have HO_316001 := n2_; have HO_316002 := n3_; have HO_325001 := n4_; have HO_325002 := n5_; have HO329 := n6_; have HO332 := n7_; have BK290 := n8_; have BK307 := n9_; have BK315 := n10_; have BK324 := n11_; have HB := n12_; clear n0_ n1_ n2_ n3_ n4_ n5_ n6_ n7_ n8_ n9_ n10_ n11_ n12_; (try clear hb); (try clear hb2); (try clear hk); (try clear hi)))
         go_meet
         case rel => exact ⟨_, ((t323 != t306)), (by first | rfl | (simp; done) | (simp [*]; done)), H', ⟨by have := HJ11.out; first | omega | exact Nat.le_refl _⟩, ⟨by (with_reducible repeat (first | apply Kd.R_alloc | apply Kd.R_drewN | apply Kd.R_drew)); exact Kd.R_mono HO_308001.out (fun _ hk => by first | exact ⟨hk.1, hk.2.1⟩ | grind)⟩, ⟨by (with_reducible repeat (first | apply Kd.R_alloc | apply Kd.R_drewN | apply Kd.R_drew)); exact Kd.R_mono HO_308002.out (fun _ hk => by first | exact ⟨hk.1, hk.2.1⟩ | grind)⟩, ⟨by (with_reducible repeat (first | apply Kd.R_alloc | apply Kd.R_drewN | apply Kd.R_drew)); exact Kd.R_mono HO_316001.out (fun _ hk => by first | exact ⟨hk.1.1, hk.1.2⟩ | grind)⟩, ⟨by (with_reducible repeat (first | apply Kd.R_alloc | apply Kd.R_drewN | apply Kd.R_drew)); exact Kd.R_mono HO_316002.out (fun _ hk => by first | exact ⟨hk.1.1, hk.1.2⟩ | grind)⟩, ⟨by (with_reducible repeat (first | apply Kd.R_alloc | apply Kd.R_drewN | apply Kd.R_drew)); exact Kd.R_mono HO_325001.out (fun _ hk => by first | exact ⟨hk.1, hk.2.1⟩ | grind)⟩, ⟨by (with_reducible repeat (first | apply Kd.R_alloc | apply Kd.R_drewN | apply Kd.R_drew)); exact Kd.R_mono HO_325002.out (fun _ hk => by first | exact ⟨hk.1, hk.2.1⟩ | grind)⟩, ⟨bk_ BK290⟩, ⟨bk_ BK307⟩, ⟨bk_ BK315⟩, ⟨bk_ BK324⟩, ⟨by repeat (first | (with_reducible first | exact HB.out | apply below_alloc | apply pw_below_drewN | apply below_drew1 | refine below_set ?_ GE290.out | refine below_set ?_ GE307.out | refine below_set ?_ GE315.out | refine below_set ?_ GE324.out) | exact HB.out)⟩⟩
        ·replace c78 := Bool.eq_false_iff.mpr c78
         subst c78
         have H1 : (laws_FnExactStoreGive.j1 kj11 a1 t306 true a0_0 l0_1 l0_2 t299 t300 t303 t316 t317 t320) = some r := by rw [if_neg (show ¬ (false = true) by decide)] at H; exact H
         clear H
         have H := H1
         clear H1
         have H' := Aside0.mk H
         clear H
         have hnb87 := NB324_290.out
         have hnc87 := NB290_324.out
         have hnb88 := NB324_307.out
         have hnc88 := NB307_324.out
         have hnb89 := NB324_315.out
         have hnc89 := NB315_324.out
         have hcz90_0 : w75.cell? ⟨gb324, 0, none⟩ = some (.int .i64 t316) := (blk_cell BK324.out 0).trans rfl
         have hcz90_1 : w75.cell? ⟨gb324, 1, none⟩ = some (.slice Ao40 t317.length co40) := (blk_cell BK324.out 1).trans rfl
         have hcz90_2 : w75.cell? ⟨gb324, 2, none⟩ = some (.slice Ao41 t320.length co41) := (blk_cell BK324.out 2).trans rfl
         have hfz90_0 := blk_frozen BK324.out 0
         have hfz90_1 := blk_frozen BK324.out 1
         have hfz90_2 := blk_frozen BK324.out 2
         have hnb91 := NB307_290.out
         have hnc91 := NB290_307.out
         have hnb92 := NB307_315.out
         have hnc92 := NB315_307.out
         have hcz93_0 : w75.cell? ⟨gb307, 0, none⟩ = some (.int .i64 t299) := (blk_cell BK307.out 0).trans rfl
         have hcz93_1 : w75.cell? ⟨gb307, 1, none⟩ = some (.slice Ao24 t300.length co24) := (blk_cell BK307.out 1).trans rfl
         have hcz93_2 : w75.cell? ⟨gb307, 2, none⟩ = some (.slice Ao25 t303.length co25) := (blk_cell BK307.out 2).trans rfl
         have hfz93_0 := blk_frozen BK307.out 0
         have hfz93_1 := blk_frozen BK307.out 1
         have hfz93_2 := blk_frozen BK307.out 2
         go_wp2_with (first | (go_at_call 28; (with_reducible refine (laws_eqStore.calls kj11 t316 _ _ t317 _ _ t320 t299 _ _ t300 _ _ t303 false _ ?side1 ?side2 ?side3 ?side4 ?side5 ?side6 ?side7 ?side8 A77.out).mono ?_); (case side1 => repeat (first | exact (Kd.R_reads' HO_325001.out).2.2 | (with_reducible refine Kd.C_alloc ?_ _) | (with_reducible refine Kd.C_drewN ?_ _) | (with_reducible refine Kd.C_drew ?_))); (case side2 => exact (Kd.R_reads' HO_325001.out).2.1); (case side3 => repeat (first | exact (Kd.R_reads' HO_325002.out).2.2 | (with_reducible refine Kd.C_alloc ?_ _) | (with_reducible refine Kd.C_drewN ?_ _) | (with_reducible refine Kd.C_drew ?_))); (case side4 => exact (Kd.R_reads' HO_325002.out).2.1); (case side5 => repeat (first | exact (Kd.R_reads' HO_308001.out).2.2 | (with_reducible refine Kd.C_alloc ?_ _) | (with_reducible refine Kd.C_drewN ?_ _) | (with_reducible refine Kd.C_drew ?_))); (case side6 => exact (Kd.R_reads' HO_308001.out).2.1); (case side7 => repeat (first | exact (Kd.R_reads' HO_308002.out).2.2 | (with_reducible refine Kd.C_alloc ?_ _) | (with_reducible refine Kd.C_drewN ?_ _) | (with_reducible refine Kd.C_drew ?_))); (case side8 => exact (Kd.R_reads' HO_308002.out).2.1); rintro e w94 ⟨rfl, hb⟩; have n0_ := Aside0.mk (Kd.R_below (kr_ HO_308001) hb); have n1_ := Aside0.mk (Kd.R_below (kr_ HO_308002) hb); have n2_ := Aside0.mk (Kd.R_below (kr_ HO_316001) hb); have n3_ := Aside0.mk (Kd.R_below (kr_ HO_316002) hb); have n4_ := Aside0.mk (Kd.R_below (kr_ HO_325001) hb); have n5_ := Aside0.mk (Kd.R_below (kr_ HO_325002) hb); have n6_ := Aside0.mk (Kd.R_below (kr_ HO329) hb); have n7_ := Aside0.mk (Kd.R_below (kr_ HO332) hb); have n8_ := Aside0.mk (blk_below (g := gb290) (o := .cells #[.int .i64 a0_0, .slice A0_1 l0_1.length c0_1, .slice A0_2 l0_2.length c0_2] 46 (0, 0)) (bk_ BK290) hb); have n9_ := Aside0.mk (blk_below (g := gb307) (o := .cells #[.int .i64 t299, .slice Ao24 t300.length co24, .slice Ao25 t303.length co25] 36 (0, 0)) (bk_ BK307) hb); have n10_ := Aside0.mk (blk_below (g := gb315) (o := .cells #[.int .i64 t308, .slice Ao32 t309.length co32, .slice Ao33 t312.length co33] 36 (0, 0)) (bk_ BK315) hb); have n11_ := Aside0.mk (blk_below (g := gb324) (o := .cells #[.int .i64 t316, .slice Ao40 t317.length co40, .slice Ao41 t320.length co41] 36 (0, 0)) (bk_ BK324) hb); have n12_ := Aside0.mk (below_step (by repeat (first | (with_reducible first | exact HB.out | apply below_alloc | apply pw_below_drewN | apply below_drew1 | refine below_set ?_ GE290.out | refine below_set ?_ GE307.out | refine below_set ?_ GE315.out | refine below_set ?_ GE324.out) | exact HB.out)) hb); clear HO_308001; clear HO_308002; clear HO_316001; clear HO_316002; clear HO_325001; clear HO_325002; clear HO329; clear HO332; clear BK290; clear BK307; clear BK315; clear BK324; clear HB; have HO_308001 := n0_; have HO_308002 := n1_; have HO_316001 := n2_; have HO_316002 := n3_; have HO_325001 := n4_; have HO_325002 := n5_; have HO329 := n6_; have HO332 := n7_; have BK290 := n8_; have BK307 := n9_; have BK315 := n10_; have BK324 := n11_; have HB := n12_; clear n0_ n1_ n2_ n3_ n4_ n5_ n6_ n7_ n8_ n9_ n10_ n11_ n12_; (try clear hb); (try clear hb2); (try clear hk); (try clear hi)))
         go_meet
         case rel => exact ⟨_, (true), (by first | rfl | (simp; done) | (simp [*]; done)), H', ⟨by have := HJ11.out; first | omega | exact Nat.le_refl _⟩, ⟨by (with_reducible repeat (first | apply Kd.R_alloc | apply Kd.R_drewN | apply Kd.R_drew)); exact Kd.R_mono HO_308001.out (fun _ hk => by first | exact ⟨hk.1, hk.2.1⟩ | grind)⟩, ⟨by (with_reducible repeat (first | apply Kd.R_alloc | apply Kd.R_drewN | apply Kd.R_drew)); exact Kd.R_mono HO_308002.out (fun _ hk => by first | exact ⟨hk.1, hk.2.1⟩ | grind)⟩, ⟨by (with_reducible repeat (first | apply Kd.R_alloc | apply Kd.R_drewN | apply Kd.R_drew)); exact Kd.R_mono HO_316001.out (fun _ hk => by first | exact ⟨hk.1.1, hk.1.2⟩ | grind)⟩, ⟨by (with_reducible repeat (first | apply Kd.R_alloc | apply Kd.R_drewN | apply Kd.R_drew)); exact Kd.R_mono HO_316002.out (fun _ hk => by first | exact ⟨hk.1.1, hk.1.2⟩ | grind)⟩, ⟨by (with_reducible repeat (first | apply Kd.R_alloc | apply Kd.R_drewN | apply Kd.R_drew)); exact Kd.R_mono HO_325001.out (fun _ hk => by first | exact ⟨hk.1, hk.2.1⟩ | grind)⟩, ⟨by (with_reducible repeat (first | apply Kd.R_alloc | apply Kd.R_drewN | apply Kd.R_drew)); exact Kd.R_mono HO_325002.out (fun _ hk => by first | exact ⟨hk.1, hk.2.1⟩ | grind)⟩, ⟨bk_ BK290⟩, ⟨bk_ BK307⟩, ⟨bk_ BK315⟩, ⟨bk_ BK324⟩, ⟨by repeat (first | (with_reducible first | exact HB.out | apply below_alloc | apply pw_below_drewN | apply below_drew1 | refine below_set ?_ GE290.out | refine below_set ?_ GE307.out | refine below_set ?_ GE315.out | refine below_set ?_ GE324.out) | exact HB.out)⟩⟩
      case rest =>
       clear HC65
       try clear c1
       try clear c2
       try clear p2
       try clear c3
       try clear c4
       try clear c4b0
       try clear c5
       try clear c6
       try clear c7
       try clear c8
       try clear c9
       try clear c15
       try clear c22
       try clear c28
       try clear c29
       try clear c30
       try clear c36
       try clear c37
       try clear c38
       try clear c40
       try clear c43
       try clear c44
       try clear c45
       try clear c46
       try clear c48
       try clear c49
       try clear c52
       try clear c53
       try clear c54
       try clear c56
       try clear c57
       try clear c60
       try clear c63
       try clear c71
       try clear c72
       try clear c73
       try clear c76
       try clear c76b0
       try clear c78
       try clear c79
       try clear c80
       try clear c81
       try clear c83
       try clear c84
       try clear c87
       try clear c88
       try clear c89
       try clear c91
       try clear c92
       try clear hcz14_0
       try clear hcz14_1
       try clear hcz14_2
       try clear hcz16_0
       try clear hcz16_1
       try clear hcz16_2
       try clear hcz23_0
       try clear hcz23_1
       try clear hcz23_2
       try clear hcz26_0
       try clear hcz26_1
       try clear hcz26_2
       try clear hcz31_0
       try clear hcz31_1
       try clear hcz31_2
       try clear hcz39_0
       try clear hcz39_1
       try clear hcz39_2
       try clear hcz47_0
       try clear hcz47_1
       try clear hcz47_2
       try clear hcz50_0
       try clear hcz50_1
       try clear hcz50_2
       try clear hcz55_0
       try clear hcz55_1
       try clear hcz55_2
       try clear hcz58_0
       try clear hcz58_1
       try clear hcz58_2
       try clear hcz6_0
       try clear hcz6_1
       try clear hcz6_2
       try clear hcz74_0
       try clear hcz74_1
       try clear hcz74_2
       try clear hcz82_0
       try clear hcz82_1
       try clear hcz82_2
       try clear hcz85_0
       try clear hcz85_1
       try clear hcz85_2
       try clear hcz90_0
       try clear hcz90_1
       try clear hcz90_2
       try clear hcz93_0
       try clear hcz93_1
       try clear hcz93_2
       try clear hfz14_0
       try clear hfz14_1
       try clear hfz14_2
       try clear hfz16_0
       try clear hfz16_1
       try clear hfz16_2
       try clear hfz23_0
       try clear hfz23_1
       try clear hfz23_2
       try clear hfz26_0
       try clear hfz26_1
       try clear hfz26_2
       try clear hfz31_0
       try clear hfz31_1
       try clear hfz31_2
       try clear hfz39_0
       try clear hfz39_1
       try clear hfz39_2
       try clear hfz47_0
       try clear hfz47_1
       try clear hfz47_2
       try clear hfz50_0
       try clear hfz50_1
       try clear hfz50_2
       try clear hfz55_0
       try clear hfz55_1
       try clear hfz55_2
       try clear hfz58_0
       try clear hfz58_1
       try clear hfz58_2
       try clear hfz6_0
       try clear hfz6_1
       try clear hfz6_2
       try clear hfz74_0
       try clear hfz74_1
       try clear hfz74_2
       try clear hfz82_0
       try clear hfz82_1
       try clear hfz82_2
       try clear hfz85_0
       try clear hfz85_1
       try clear hfz85_2
       try clear hfz90_0
       try clear hfz90_1
       try clear hfz90_2
       try clear hfz93_0
       try clear hfz93_1
       try clear hfz93_2
       try clear p2
       obtain ⟨kq, x65_64, rfl, HA, HJ64, HO_308001, HO_308002, HO_316001, HO_316002, HO_325001, HO_325002, BK290, BK307, BK315, BK324, HB⟩ := hcut
       have hl316001_64 := (Kd.R_reads' HO_316001.out).1
       rw [hl316001_64] at HO_316001
       (try simp only [hl316001_64])
       (try simp only [hl316001_64] at BK290)
       (try simp only [hl316001_64] at BK307)
       (try simp only [hl316001_64] at BK315)
       (try simp only [hl316001_64] at BK324)
       (try simp only [hl316001_64] at HO_308001)
       (try simp only [hl316001_64] at HO_308002)
       (try simp only [hl316001_64] at HO_316002)
       (try simp only [hl316001_64] at HO_325001)
       (try simp only [hl316001_64] at HO_325002)
       have hl316002_64 := (Kd.R_reads' HO_316002.out).1
       rw [hl316002_64] at HO_316002
       (try simp only [hl316002_64])
       (try simp only [hl316002_64] at BK290)
       (try simp only [hl316002_64] at BK307)
       (try simp only [hl316002_64] at BK315)
       (try simp only [hl316002_64] at BK324)
       (try simp only [hl316002_64] at HO_308001)
       (try simp only [hl316002_64] at HO_308002)
       (try simp only [hl316002_64] at HO_316001)
       (try simp only [hl316002_64] at HO_325001)
       (try simp only [hl316002_64] at HO_325002)
       cases kq with
       | zero => exact absurd HA.out (by simp [laws_FnExactStoreGive.j1])
       | succ kj64 =>
        have H := HA.out
        clear HA
        simp only [laws_FnExactStoreGive.j1] at H
        by_cases c95 : x65_64 = true
        ·subst c95
         have H1 : (some false) = some r := by rw [if_pos rfl] at H; exact H
         clear H
         have H := H1
         clear H1
         obtain rfl := Option.some.inj H
         go_wp2
         go_ret
         exact ⟨by first | rfl | (simp [errW_none, errW_some] <;> rfl) | (simp [*, errW_none, errW_some] <;> rfl), by repeat (first | (with_reducible first | exact HB.out | apply below_alloc | apply pw_below_drewN | apply below_drew1 | refine below_set ?_ GE290.out | refine below_set ?_ GE307.out | refine below_set ?_ GE315.out | refine below_set ?_ GE324.out) | exact HB.out)⟩
        ·replace c95 := Bool.eq_false_iff.mpr c95
         subst c95
         have H1 : ((laws_markStore.f kj64 t316 t317 t320 1).bind fun bt338 => ((laws_heldStore.f kj64 t316 bt338.2.1 bt338.2.2 1).bind fun t341 => (if t341 < 0 then (some false) else (if t341 = bt338.1 then ((laws_toStore.f kj64 a0_0 l0_1 l0_2).bind fun bt342 => ((impl_StoreGive.f kj64 bt342.1 bt342.2.1 bt342.2.2 a1).bind fun bt349 => ((laws_eqStore.f kj64 bt349.1 bt349.2.1 bt349.2.2.1 t299 t300 t303).bind fun t358 => (if t358 = true then (laws_FnExactStoreGive.j2 kj64 bt338.1 (bt349.2.2.2 != t306) t316 bt338.2.1 bt338.2.2) else (laws_FnExactStoreGive.j2 kj64 bt338.1 true t316 bt338.2.1 bt338.2.2))))) else (some false))))) = some r := by rw [if_neg (show ¬ (false = true) by decide)] at H; exact H
         clear H
         have H := H1
         clear H1
         replace H := Option.bind_eq_some_iff.mp H
         obtain ⟨⟨t338, t339, t340⟩, A960, H⟩ := H
         replace H : ((laws_heldStore.f kj64 t316 t339 t340 1).bind fun t341 => (if t341 < 0 then (some false) else (if t341 = t338 then ((laws_toStore.f kj64 a0_0 l0_1 l0_2).bind fun bt342 => ((impl_StoreGive.f kj64 bt342.1 bt342.2.1 bt342.2.2 a1).bind fun bt349 => ((laws_eqStore.f kj64 bt349.1 bt349.2.1 bt349.2.2.1 t299 t300 t303).bind fun t358 => (if t358 = true then (laws_FnExactStoreGive.j2 kj64 t338 (bt349.2.2.2 != t306) t316 t339 t340) else (laws_FnExactStoreGive.j2 kj64 t338 true t316 t339 t340))))) else (some false)))) = some r := H
         have A96 := Aside0.mk A960
         clear A960
         replace H := Option.bind_eq_some_iff.mp H
         obtain ⟨t341, A970, H⟩ := H
         replace H : (if t341 < 0 then (some false) else (if t341 = t338 then ((laws_toStore.f kj64 a0_0 l0_1 l0_2).bind fun bt342 => ((impl_StoreGive.f kj64 bt342.1 bt342.2.1 bt342.2.2 a1).bind fun bt349 => ((laws_eqStore.f kj64 bt349.1 bt349.2.1 bt349.2.2.1 t299 t300 t303).bind fun t358 => (if t358 = true then (laws_FnExactStoreGive.j2 kj64 t338 (bt349.2.2.2 != t306) t316 t339 t340) else (laws_FnExactStoreGive.j2 kj64 t338 true t316 t339 t340))))) else (some false))) = some r := H
         have A97 := Aside0.mk A970
         clear A970
         by_cases c98 : t341 < 0
         ·rw [if_pos c98] at H
          have c98b0 : decide (t341 < 0) = true := decide_eq_true c98
          have c98b0l := c98b0
          (try simp only [hl316001_64, hl316002_64] at c98b0l)
          clear c98
          obtain rfl := Option.some.inj H
          have hnb99 := NB324_290.out
          have hnc99 := NB290_324.out
          have hnb100 := NB324_307.out
          have hnc100 := NB307_324.out
          have hnb101 := NB324_315.out
          have hnc101 := NB315_324.out
          have hcz102_0 : wc.cell? ⟨gb324, 0, none⟩ = some (.int .i64 t316) := (blk_cell BK324.out 0).trans rfl
          have hcz102_1 : wc.cell? ⟨gb324, 1, none⟩ = some (.slice Ao40 t317.length co40) := (blk_cell BK324.out 1).trans rfl
          have hcz102_2 : wc.cell? ⟨gb324, 2, none⟩ = some (.slice Ao41 t320.length co41) := (blk_cell BK324.out 2).trans rfl
          have hfz102_0 := blk_frozen BK324.out 0
          have hfz102_1 := blk_frozen BK324.out 1
          have hfz102_2 := blk_frozen BK324.out 2
          go_wp2_with (first | ((with_reducible refine gate_callee (f := 29) rfl ?_); refine goesL_ (some 68) rfl rfl Try.func29 (by kernel_rfl) rfl #[.agg #[.int .i64 t316, .slice Ao40 t317.length co40, .slice Ao41 t320.length co41], .int .i64 1] rfl mt_ ?_; (with_reducible refine (laws_markStore.calls kj64 t316 (fun k_ => some k_ = (.slice Ao40 t317.length co40 : Value).ownBlock) (.slice Ao40 t317.length co40) t317 (fun k_ => some k_ = (.slice Ao41 t320.length co41 : Value).ownBlock) (.slice Ao41 t320.length co41) t320 1 t338 t339 t340 w _ ?side1 ?side2 ?side3 A96.out).mono ?_); (case side1 => repeat (first | (with_reducible first | exact HB.out | apply below_alloc | apply pw_below_drewN | apply below_drew1 | refine below_set ?_ GE290.out | refine below_set ?_ GE307.out | refine below_set ?_ GE315.out | refine below_set ?_ GE324.out) | exact HB.out)); (case side2 => exact Kd.R_tight rfl HO_325001.out); (case side3 => exact Kd.R_tight rfl HO_325002.out); rintro e w103 ⟨rfl, hy0, hy1, hb, hkp⟩; refine ⟨_, rfl, ?_⟩; have n0_ := Aside0.mk (Kd.R_mono (ok' := fun k_ => some k_ ≠ (.slice Ao32 t335.length co32 : Value).ownBlock ∧ some k_ ≠ (.slice Ao40 t317.length co40 : Value).ownBlock) (Kd.R_keptB ((Kd.R_apart' HO_308001.out (Kd.R_typed HO_325002.out) (by decide))) hkp (fun k_ hk_ hs_ => Or.elim hs_ (fun e_ => (hk_.1.2) e_) (fun e_ => (hk_.2) e_))) (fun k_ hk_ => by first | exact ⟨hk_.1.1.1, hk_.1.1.2⟩ | grind)); have n1_ := Aside0.mk (Kd.R_mono (ok' := fun k_ => some k_ ≠ (.slice Ao33 t336.length co33 : Value).ownBlock ∧ some k_ ≠ (.slice Ao41 t320.length co41 : Value).ownBlock) (Kd.R_keptB ((Kd.R_apart' HO_308002.out (Kd.R_typed HO_325001.out) (by decide))) hkp (fun k_ hk_ hs_ => Or.elim hs_ (fun e_ => (hk_.2) e_) (fun e_ => (hk_.1.2) e_))) (fun k_ hk_ => by first | exact ⟨hk_.1.1.1, hk_.1.1.2⟩ | grind)); have n2_ := Aside0.mk (Kd.R_mono (ok' := fun k_ => some k_ ≠ (.slice Ao24 t300.length co24 : Value).ownBlock ∧ some k_ ≠ (.slice Ao40 t317.length co40 : Value).ownBlock) (Kd.R_keptB ((Kd.R_apart' HO_316001.out (Kd.R_typed HO_325002.out) (by decide))) hkp (fun k_ hk_ hs_ => Or.elim hs_ (fun e_ => (hk_.1.2) e_) (fun e_ => (hk_.2) e_))) (fun k_ hk_ => by first | exact ⟨hk_.1.1.1, hk_.1.1.2⟩ | grind)); have n3_ := Aside0.mk (Kd.R_mono (ok' := fun k_ => some k_ ≠ (.slice Ao25 t303.length co25 : Value).ownBlock ∧ some k_ ≠ (.slice Ao41 t320.length co41 : Value).ownBlock) (Kd.R_keptB ((Kd.R_apart' HO_316002.out (Kd.R_typed HO_325001.out) (by decide))) hkp (fun k_ hk_ hs_ => Or.elim hs_ (fun e_ => (hk_.2) e_) (fun e_ => (hk_.1.2) e_))) (fun k_ hk_ => by first | exact ⟨hk_.1.1.1, hk_.1.1.2⟩ | grind)); have n4_ := Aside0.mk (Kd.R_reok rfl hy0 (fun k_ e_ => HO_325001.out.1 k_ e_)); have n5_ := Aside0.mk (Kd.R_reok rfl hy1 (fun k_ e_ => HO_325002.out.1 k_ e_)); have n6_ := Aside0.mk (blk_kept (bk_ BK290) hkp (fun hs_ => Or.elim hs_ (fun e_ => (fun e_ => (Kd.R_ne HO_325001.out BK290.out (by decide)) e_) e_) (fun e_ => (fun e_ => (Kd.R_ne HO_325002.out BK290.out (by decide)) e_) e_))); have n7_ := Aside0.mk (blk_kept (bk_ BK307) hkp (fun hs_ => Or.elim hs_ (fun e_ => (fun e_ => (Kd.R_ne HO_325001.out BK307.out (by decide)) e_) e_) (fun e_ => (fun e_ => (Kd.R_ne HO_325002.out BK307.out (by decide)) e_) e_))); have n8_ := Aside0.mk (blk_kept (bk_ BK315) hkp (fun hs_ => Or.elim hs_ (fun e_ => (fun e_ => (Kd.R_ne HO_325001.out BK315.out (by decide)) e_) e_) (fun e_ => (fun e_ => (Kd.R_ne HO_325002.out BK315.out (by decide)) e_) e_))); have n9_ := Aside0.mk (blk_kept (bk_ BK324) hkp (fun hs_ => Or.elim hs_ (fun e_ => (fun e_ => (Kd.R_ne HO_325001.out BK324.out (by decide)) e_) e_) (fun e_ => (fun e_ => (Kd.R_ne HO_325002.out BK324.out (by decide)) e_) e_))); have n10_ := Aside0.mk (hb); clear HO_308001; clear HO_308002; clear HO_316001; clear HO_316002; clear HO_325001; clear HO_325002; clear BK290; clear BK307; clear BK315; clear BK324; clear HB; have HO_308001 := n0_; have HO_308002 := n1_; have HO_316001 := n2_; have HO_316002 := n3_; have HO_325001 := n4_; have HO_325002 := n5_; have BK290 := n6_; have BK307 := n7_; have BK315 := n8_; have BK324 := n9_; have HB := n10_; clear n0_ n1_ n2_ n3_ n4_ n5_ n6_ n7_ n8_ n9_ n10_; (try clear hb); (try clear hkp); (try clear hy0); (try clear hy1); have hcz104_0 : w103.cell? ⟨gb324, 0, none⟩ = some (.int .i64 t316) := (blk_cell BK324.out 0).trans rfl; have hcz104_1 : w103.cell? ⟨gb324, 1, none⟩ = some (.slice Ao40 t317.length co40) := (blk_cell BK324.out 1).trans rfl; have hcz104_2 : w103.cell? ⟨gb324, 2, none⟩ = some (.slice Ao41 t320.length co41) := (blk_cell BK324.out 2).trans rfl; have hfz104_0 := blk_frozen BK324.out 0; have hfz104_1 := blk_frozen BK324.out 1; have hfz104_2 := blk_frozen BK324.out 2) | ((with_reducible refine gate_callee (f := 30) rfl ?_); refine goesL_ (some 71) rfl rfl Try.func30 (by kernel_rfl) rfl #[.agg #[.int .i64 t316, .slice Ao40 t339.length co40, .slice Ao41 t340.length co41], .int .i64 1] rfl (by (try simp only [List.map_toArray, List.map_cons, List.map_nil]); first | done | (rw [show t339.length = t317.length from (Kd.R_reads' HO_325001.out).1.symm, show t340.length = t320.length from (Kd.R_reads' HO_325002.out).1.symm] <;> rfl) | rfl | (simp only [List.length_drop, List.length_take]; rfl)) ?_; (with_reducible refine (laws_heldStore.calls kj64 t316 _ _ t339 _ _ t340 1 t341 _ ?side1 ?side2 ?side3 ?side4 A97.out).mono ?_); (case side1 => repeat (first | exact (Kd.R_reads' HO_325001.out).2.2 | (with_reducible refine Kd.C_alloc ?_ _) | (with_reducible refine Kd.C_drewN ?_ _) | (with_reducible refine Kd.C_drew ?_))); (case side2 => rw [show t339.length = t317.length from (Kd.R_reads' HO_325001.out).1.symm]; exact (Kd.R_reads' HO_325001.out).2.1); (case side3 => repeat (first | exact (Kd.R_reads' HO_325002.out).2.2 | (with_reducible refine Kd.C_alloc ?_ _) | (with_reducible refine Kd.C_drewN ?_ _) | (with_reducible refine Kd.C_drew ?_))); (case side4 => rw [show t340.length = t320.length from (Kd.R_reads' HO_325002.out).1.symm]; exact (Kd.R_reads' HO_325002.out).2.1); rintro e w105 ⟨rfl, hb⟩; refine ⟨_, rfl, ?_⟩; have n0_ := Aside0.mk (Kd.R_below (kr_ HO_308001) hb); have n1_ := Aside0.mk (Kd.R_below (kr_ HO_308002) hb); have n2_ := Aside0.mk (Kd.R_below (kr_ HO_316001) hb); have n3_ := Aside0.mk (Kd.R_below (kr_ HO_316002) hb); have n4_ := Aside0.mk (Kd.R_below (kr_ HO_325001) hb); have n5_ := Aside0.mk (Kd.R_below (kr_ HO_325002) hb); have n6_ := Aside0.mk (blk_below (g := gb290) (o := .cells #[.int .i64 a0_0, .slice A0_1 l0_1.length c0_1, .slice A0_2 l0_2.length c0_2] 46 (0, 0)) (bk_ BK290) hb); have n7_ := Aside0.mk (blk_below (g := gb307) (o := .cells #[.int .i64 t299, .slice Ao24 t300.length co24, .slice Ao25 t303.length co25] 36 (0, 0)) (bk_ BK307) hb); have n8_ := Aside0.mk (blk_below (g := gb315) (o := .cells #[.int .i64 t308, .slice Ao32 t335.length co32, .slice Ao33 t336.length co33] 36 (0, 0)) (bk_ BK315) hb); have n9_ := Aside0.mk (blk_below (g := gb324) (o := .cells #[.int .i64 t316, .slice Ao40 t317.length co40, .slice Ao41 t320.length co41] 36 (0, 0)) (bk_ BK324) hb); have n10_ := Aside0.mk (below_step (by repeat (first | (with_reducible first | exact HB.out | apply below_alloc | apply pw_below_drewN | apply below_drew1 | refine below_set ?_ GE290.out | refine below_set ?_ GE307.out | refine below_set ?_ GE315.out | refine below_set ?_ GE324.out) | exact HB.out)) hb); clear HO_308001; clear HO_308002; clear HO_316001; clear HO_316002; clear HO_325001; clear HO_325002; clear BK290; clear BK307; clear BK315; clear BK324; clear HB; have HO_308001 := n0_; have HO_308002 := n1_; have HO_316001 := n2_; have HO_316002 := n3_; have HO_325001 := n4_; have HO_325002 := n5_; have BK290 := n6_; have BK307 := n7_; have BK315 := n8_; have BK324 := n9_; have HB := n10_; clear n0_ n1_ n2_ n3_ n4_ n5_ n6_ n7_ n8_ n9_ n10_; (try clear hb); (try clear hb2); (try clear hk); (try clear hi)))
          go_ret
          exact ⟨by first | rfl | (simp [errW_none, errW_some] <;> rfl) | (simp [*, errW_none, errW_some] <;> rfl), by repeat (first | (with_reducible first | exact HB.out | apply below_alloc | apply pw_below_drewN | apply below_drew1 | refine below_set ?_ GE290.out | refine below_set ?_ GE307.out | refine below_set ?_ GE315.out | refine below_set ?_ GE324.out) | exact HB.out)⟩
         ·rw [if_neg c98] at H
          have c98b0 : decide (t341 < 0) = false := decide_eq_false c98
          have c98b0l := c98b0
          (try simp only [hl316001_64, hl316002_64] at c98b0l)
          clear c98
          by_cases c106 : t341 = t338
          ·rw [if_pos c106] at H
           have c106b0 : (t341 == t338) = true := beq_iff_eq.mpr c106
           have c106b0l := c106b0
           (try simp only [hl316001_64, hl316002_64] at c106b0l)
           have c106b1 : (t341 != t338) = false := bne_eq_false_iff_eq.mpr c106
           have c106b1l := c106b1
           (try simp only [hl316001_64, hl316002_64] at c106b1l)
           clear c106
           replace H := Option.bind_eq_some_iff.mp H
           obtain ⟨⟨t342, t343, t346⟩, A1070, H⟩ := H
           replace H : ((impl_StoreGive.f kj64 t342 t343 t346 a1).bind fun bt349 => ((laws_eqStore.f kj64 bt349.1 bt349.2.1 bt349.2.2.1 t299 t300 t303).bind fun t358 => (if t358 = true then (laws_FnExactStoreGive.j2 kj64 t338 (bt349.2.2.2 != t306) t316 t339 t340) else (laws_FnExactStoreGive.j2 kj64 t338 true t316 t339 t340)))) = some r := H
           have A107 := Aside0.mk A1070
           clear A1070
           replace H := Option.bind_eq_some_iff.mp H
           obtain ⟨⟨t349, t350, t353, t356⟩, A1080, H⟩ := H
           replace H : ((laws_eqStore.f kj64 t349 t350 t353 t299 t300 t303).bind fun t358 => (if t358 = true then (laws_FnExactStoreGive.j2 kj64 t338 (t356 != t306) t316 t339 t340) else (laws_FnExactStoreGive.j2 kj64 t338 true t316 t339 t340))) = some r := H
           have A108 := Aside0.mk A1080
           clear A1080
           have HC109 := Aside0.mk H
           clear H
           have hnb110 := NB324_290.out
           have hnc110 := NB290_324.out
           have hnb111 := NB324_307.out
           have hnc111 := NB307_324.out
           have hnb112 := NB324_315.out
           have hnc112 := NB315_324.out
           have hcz113_0 : wc.cell? ⟨gb324, 0, none⟩ = some (.int .i64 t316) := (blk_cell BK324.out 0).trans rfl
           have hcz113_1 : wc.cell? ⟨gb324, 1, none⟩ = some (.slice Ao40 t317.length co40) := (blk_cell BK324.out 1).trans rfl
           have hcz113_2 : wc.cell? ⟨gb324, 2, none⟩ = some (.slice Ao41 t320.length co41) := (blk_cell BK324.out 2).trans rfl
           have hfz113_0 := blk_frozen BK324.out 0
           have hfz113_1 := blk_frozen BK324.out 1
           have hfz113_2 := blk_frozen BK324.out 2
           go_upto_region 25 with (first | ((with_reducible refine gate_callee (f := 29) rfl ?_); refine goesL_ (some 68) rfl rfl Try.func29 (by kernel_rfl) rfl #[.agg #[.int .i64 t316, .slice Ao40 t317.length co40, .slice Ao41 t320.length co41], .int .i64 1] rfl mt_ ?_; (with_reducible refine (laws_markStore.calls kj64 t316 (fun k_ => some k_ = (.slice Ao40 t317.length co40 : Value).ownBlock) (.slice Ao40 t317.length co40) t317 (fun k_ => some k_ = (.slice Ao41 t320.length co41 : Value).ownBlock) (.slice Ao41 t320.length co41) t320 1 t338 t339 t340 w _ ?side1 ?side2 ?side3 A96.out).mono ?_); (case side1 => repeat (first | (with_reducible first | exact HB.out | apply below_alloc | apply pw_below_drewN | apply below_drew1 | refine below_set ?_ GE290.out | refine below_set ?_ GE307.out | refine below_set ?_ GE315.out | refine below_set ?_ GE324.out) | exact HB.out)); (case side2 => exact Kd.R_tight rfl HO_325001.out); (case side3 => exact Kd.R_tight rfl HO_325002.out); rintro e w114 ⟨rfl, hy0, hy1, hb, hkp⟩; refine ⟨_, rfl, ?_⟩; have n0_ := Aside0.mk (Kd.R_mono (ok' := fun k_ => some k_ ≠ (.slice Ao32 t335.length co32 : Value).ownBlock ∧ some k_ ≠ (.slice Ao40 t317.length co40 : Value).ownBlock) (Kd.R_keptB ((Kd.R_apart' HO_308001.out (Kd.R_typed HO_325002.out) (by decide))) hkp (fun k_ hk_ hs_ => Or.elim hs_ (fun e_ => (hk_.1.2) e_) (fun e_ => (hk_.2) e_))) (fun k_ hk_ => by first | exact ⟨hk_.1.1.1, hk_.1.1.2⟩ | grind)); have n1_ := Aside0.mk (Kd.R_mono (ok' := fun k_ => some k_ ≠ (.slice Ao33 t336.length co33 : Value).ownBlock ∧ some k_ ≠ (.slice Ao41 t320.length co41 : Value).ownBlock) (Kd.R_keptB ((Kd.R_apart' HO_308002.out (Kd.R_typed HO_325001.out) (by decide))) hkp (fun k_ hk_ hs_ => Or.elim hs_ (fun e_ => (hk_.2) e_) (fun e_ => (hk_.1.2) e_))) (fun k_ hk_ => by first | exact ⟨hk_.1.1.1, hk_.1.1.2⟩ | grind)); have n2_ := Aside0.mk (Kd.R_mono (ok' := fun k_ => some k_ ≠ (.slice Ao24 t300.length co24 : Value).ownBlock ∧ some k_ ≠ (.slice Ao40 t317.length co40 : Value).ownBlock) (Kd.R_keptB ((Kd.R_apart' HO_316001.out (Kd.R_typed HO_325002.out) (by decide))) hkp (fun k_ hk_ hs_ => Or.elim hs_ (fun e_ => (hk_.1.2) e_) (fun e_ => (hk_.2) e_))) (fun k_ hk_ => by first | exact ⟨hk_.1.1.1, hk_.1.1.2⟩ | grind)); have n3_ := Aside0.mk (Kd.R_mono (ok' := fun k_ => some k_ ≠ (.slice Ao25 t303.length co25 : Value).ownBlock ∧ some k_ ≠ (.slice Ao41 t320.length co41 : Value).ownBlock) (Kd.R_keptB ((Kd.R_apart' HO_316002.out (Kd.R_typed HO_325001.out) (by decide))) hkp (fun k_ hk_ hs_ => Or.elim hs_ (fun e_ => (hk_.2) e_) (fun e_ => (hk_.1.2) e_))) (fun k_ hk_ => by first | exact ⟨hk_.1.1.1, hk_.1.1.2⟩ | grind)); have n4_ := Aside0.mk (Kd.R_reok rfl hy0 (fun k_ e_ => HO_325001.out.1 k_ e_)); have n5_ := Aside0.mk (Kd.R_reok rfl hy1 (fun k_ e_ => HO_325002.out.1 k_ e_)); have n6_ := Aside0.mk (blk_kept (bk_ BK290) hkp (fun hs_ => Or.elim hs_ (fun e_ => (fun e_ => (Kd.R_ne HO_325001.out BK290.out (by decide)) e_) e_) (fun e_ => (fun e_ => (Kd.R_ne HO_325002.out BK290.out (by decide)) e_) e_))); have n7_ := Aside0.mk (blk_kept (bk_ BK307) hkp (fun hs_ => Or.elim hs_ (fun e_ => (fun e_ => (Kd.R_ne HO_325001.out BK307.out (by decide)) e_) e_) (fun e_ => (fun e_ => (Kd.R_ne HO_325002.out BK307.out (by decide)) e_) e_))); have n8_ := Aside0.mk (blk_kept (bk_ BK315) hkp (fun hs_ => Or.elim hs_ (fun e_ => (fun e_ => (Kd.R_ne HO_325001.out BK315.out (by decide)) e_) e_) (fun e_ => (fun e_ => (Kd.R_ne HO_325002.out BK315.out (by decide)) e_) e_))); have n9_ := Aside0.mk (blk_kept (bk_ BK324) hkp (fun hs_ => Or.elim hs_ (fun e_ => (fun e_ => (Kd.R_ne HO_325001.out BK324.out (by decide)) e_) e_) (fun e_ => (fun e_ => (Kd.R_ne HO_325002.out BK324.out (by decide)) e_) e_))); have n10_ := Aside0.mk (hb); clear HO_308001; clear HO_308002; clear HO_316001; clear HO_316002; clear HO_325001; clear HO_325002; clear BK290; clear BK307; clear BK315; clear BK324; clear HB; have HO_308001 := n0_; have HO_308002 := n1_; have HO_316001 := n2_; have HO_316002 := n3_; have HO_325001 := n4_; have HO_325002 := n5_; have BK290 := n6_; have BK307 := n7_; have BK315 := n8_; have BK324 := n9_; have HB := n10_; clear n0_ n1_ n2_ n3_ n4_ n5_ n6_ n7_ n8_ n9_ n10_; (try clear hb); (try clear hkp); (try clear hy0); (try clear hy1); have hcz115_0 : w114.cell? ⟨gb324, 0, none⟩ = some (.int .i64 t316) := (blk_cell BK324.out 0).trans rfl; have hcz115_1 : w114.cell? ⟨gb324, 1, none⟩ = some (.slice Ao40 t317.length co40) := (blk_cell BK324.out 1).trans rfl; have hcz115_2 : w114.cell? ⟨gb324, 2, none⟩ = some (.slice Ao41 t320.length co41) := (blk_cell BK324.out 2).trans rfl; have hfz115_0 := blk_frozen BK324.out 0; have hfz115_1 := blk_frozen BK324.out 1; have hfz115_2 := blk_frozen BK324.out 2) | ((with_reducible refine gate_callee (f := 30) rfl ?_); refine goesL_ (some 71) rfl rfl Try.func30 (by kernel_rfl) rfl #[.agg #[.int .i64 t316, .slice Ao40 t339.length co40, .slice Ao41 t340.length co41], .int .i64 1] rfl (by (try simp only [List.map_toArray, List.map_cons, List.map_nil]); first | done | (rw [show t339.length = t317.length from (Kd.R_reads' HO_325001.out).1.symm, show t340.length = t320.length from (Kd.R_reads' HO_325002.out).1.symm] <;> rfl) | rfl | (simp only [List.length_drop, List.length_take]; rfl)) ?_; (with_reducible refine (laws_heldStore.calls kj64 t316 _ _ t339 _ _ t340 1 t341 _ ?side1 ?side2 ?side3 ?side4 A97.out).mono ?_); (case side1 => repeat (first | exact (Kd.R_reads' HO_325001.out).2.2 | (with_reducible refine Kd.C_alloc ?_ _) | (with_reducible refine Kd.C_drewN ?_ _) | (with_reducible refine Kd.C_drew ?_))); (case side2 => rw [show t339.length = t317.length from (Kd.R_reads' HO_325001.out).1.symm]; exact (Kd.R_reads' HO_325001.out).2.1); (case side3 => repeat (first | exact (Kd.R_reads' HO_325002.out).2.2 | (with_reducible refine Kd.C_alloc ?_ _) | (with_reducible refine Kd.C_drewN ?_ _) | (with_reducible refine Kd.C_drew ?_))); (case side4 => rw [show t340.length = t320.length from (Kd.R_reads' HO_325002.out).1.symm]; exact (Kd.R_reads' HO_325002.out).2.1); rintro e w116 ⟨rfl, hb⟩; refine ⟨_, rfl, ?_⟩; have n0_ := Aside0.mk (Kd.R_below (kr_ HO_308001) hb); have n1_ := Aside0.mk (Kd.R_below (kr_ HO_308002) hb); have n2_ := Aside0.mk (Kd.R_below (kr_ HO_316001) hb); have n3_ := Aside0.mk (Kd.R_below (kr_ HO_316002) hb); have n4_ := Aside0.mk (Kd.R_below (kr_ HO_325001) hb); have n5_ := Aside0.mk (Kd.R_below (kr_ HO_325002) hb); have n6_ := Aside0.mk (blk_below (g := gb290) (o := .cells #[.int .i64 a0_0, .slice A0_1 l0_1.length c0_1, .slice A0_2 l0_2.length c0_2] 46 (0, 0)) (bk_ BK290) hb); have n7_ := Aside0.mk (blk_below (g := gb307) (o := .cells #[.int .i64 t299, .slice Ao24 t300.length co24, .slice Ao25 t303.length co25] 36 (0, 0)) (bk_ BK307) hb); have n8_ := Aside0.mk (blk_below (g := gb315) (o := .cells #[.int .i64 t308, .slice Ao32 t335.length co32, .slice Ao33 t336.length co33] 36 (0, 0)) (bk_ BK315) hb); have n9_ := Aside0.mk (blk_below (g := gb324) (o := .cells #[.int .i64 t316, .slice Ao40 t317.length co40, .slice Ao41 t320.length co41] 36 (0, 0)) (bk_ BK324) hb); have n10_ := Aside0.mk (below_step (by repeat (first | (with_reducible first | exact HB.out | apply below_alloc | apply pw_below_drewN | apply below_drew1 | refine below_set ?_ GE290.out | refine below_set ?_ GE307.out | refine below_set ?_ GE315.out | refine below_set ?_ GE324.out) | exact HB.out)) hb); clear HO_308001; clear HO_308002; clear HO_316001; clear HO_316002; clear HO_325001; clear HO_325002; clear BK290; clear BK307; clear BK315; clear BK324; clear HB; have HO_308001 := n0_; have HO_308002 := n1_; have HO_316001 := n2_; have HO_316002 := n3_; have HO_325001 := n4_; have HO_325002 := n5_; have BK290 := n6_; have BK307 := n7_; have BK315 := n8_; have BK324 := n9_; have HB := n10_; clear n0_ n1_ n2_ n3_ n4_ n5_ n6_ n7_ n8_ n9_ n10_; (try clear hb); (try clear hb2); (try clear hk); (try clear hi); have hnb117 := NB290_307.out; have hnc117 := NB307_290.out; have hnb118 := NB290_315.out; have hnc118 := NB315_290.out; have hcz119_0 : w116.cell? ⟨gb290, 0, none⟩ = some (.int .i64 a0_0) := (blk_cell BK290.out 0).trans rfl; have hcz119_1 : w116.cell? ⟨gb290, 1, none⟩ = some (.slice A0_1 l0_1.length c0_1) := (blk_cell BK290.out 1).trans rfl; have hcz119_2 : w116.cell? ⟨gb290, 2, none⟩ = some (.slice A0_2 l0_2.length c0_2) := (blk_cell BK290.out 2).trans rfl; have hfz119_0 := blk_frozen BK290.out 0; have hfz119_1 := blk_frozen BK290.out 1; have hfz119_2 := blk_frozen BK290.out 2) | ((with_reducible refine gate_callee (f := 40) rfl ?_); refine goesL_ (some 79) rfl rfl Try.func40 (by kernel_rfl) rfl #[.agg #[.int .i64 a0_0, .slice A0_1 l0_1.length c0_1, .slice A0_2 l0_2.length c0_2]] rfl mt_ ?_; (with_reducible refine (laws_toStore.calls kj64 a0_0 _ _ l0_1 _ _ l0_2 t342 t343 t346 _ ?side1 ?side2 ?side3 ?side4 A107.out).mono ?_); (case side1 => repeat (first | exact (Kd.C_below HR0_1.out HB.out) | (with_reducible refine Kd.C_alloc ?_ _) | (with_reducible refine Kd.C_drewN ?_ _) | (with_reducible refine Kd.C_drew ?_))); (case side2 => exact HC0_1.out); (case side3 => repeat (first | exact (Kd.C_below HR0_2.out HB.out) | (with_reducible refine Kd.C_alloc ?_ _) | (with_reducible refine Kd.C_drewN ?_ _) | (with_reducible refine Kd.C_drew ?_))); (case side4 => exact HC0_2.out); rintro e w120 ⟨v344, v347, rfl, ho0, ho1, hb⟩; refine ⟨_, rfl, ?_⟩; have n0_ := Aside0.mk (Kd.R_elder' (kr_ HO_308001) (Kd.R_base ho0) hb); have n1_ := Aside0.mk (Kd.R_elder' (kr_ HO_308002) (Kd.R_base ho1) hb); have n2_ := Aside0.mk (Kd.R_elder' (kr_ HO_316001) (Kd.R_base ho0) hb); have n3_ := Aside0.mk (Kd.R_elder' (kr_ HO_316002) (Kd.R_base ho1) hb); have n4_ := Aside0.mk (Kd.R_elder' (kr_ HO_325001) (Kd.R_base ho0) hb); have n5_ := Aside0.mk (Kd.R_elder' (kr_ HO_325002) (Kd.R_base ho1) hb); have n6_ := Aside0.mk (Kd.R_lower (Kd.R_new' (Kd.R_new' (Kd.R_new' ho0 (Kd.R_lt (kr_ HO_308001))) (Kd.R_lt (kr_ HO_316001))) (Kd.R_lt (kr_ HO_325001))) (below_size (by repeat (first | (with_reducible first | exact HB.out | apply below_alloc | apply pw_below_drewN | apply below_drew1 | refine below_set ?_ GE290.out | refine below_set ?_ GE307.out | refine below_set ?_ GE315.out | refine below_set ?_ GE324.out) | exact HB.out)))); have n7_ := Aside0.mk (Kd.R_lower (Kd.R_new' (Kd.R_new' (Kd.R_new' ho1 (Kd.R_lt (kr_ HO_308002))) (Kd.R_lt (kr_ HO_316002))) (Kd.R_lt (kr_ HO_325002))) (below_size (by repeat (first | (with_reducible first | exact HB.out | apply below_alloc | apply pw_below_drewN | apply below_drew1 | refine below_set ?_ GE290.out | refine below_set ?_ GE307.out | refine below_set ?_ GE315.out | refine below_set ?_ GE324.out) | exact HB.out)))); have n8_ := Aside0.mk (blk_below (g := gb290) (o := .cells #[.int .i64 a0_0, .slice A0_1 l0_1.length c0_1, .slice A0_2 l0_2.length c0_2] 46 (0, 0)) (bk_ BK290) hb); have n9_ := Aside0.mk (blk_below (g := gb307) (o := .cells #[.int .i64 t299, .slice Ao24 t300.length co24, .slice Ao25 t303.length co25] 36 (0, 0)) (bk_ BK307) hb); have n10_ := Aside0.mk (blk_below (g := gb315) (o := .cells #[.int .i64 t308, .slice Ao32 t335.length co32, .slice Ao33 t336.length co33] 36 (0, 0)) (bk_ BK315) hb); have n11_ := Aside0.mk (blk_below (g := gb324) (o := .cells #[.int .i64 t316, .slice Ao40 t317.length co40, .slice Ao41 t320.length co41] 36 (0, 0)) (bk_ BK324) hb); have n12_ := Aside0.mk (below_step (by repeat (first | (with_reducible first | exact HB.out | apply below_alloc | apply pw_below_drewN | apply below_drew1 | refine below_set ?_ GE290.out | refine below_set ?_ GE307.out | refine below_set ?_ GE315.out | refine below_set ?_ GE324.out) | exact HB.out)) hb); clear HO_308001; clear HO_308002; clear HO_316001; clear HO_316002; clear HO_325001; clear HO_325002; clear BK290; clear BK307; clear BK315; clear BK324; clear HB; have HO_308001 := n0_; have HO_308002 := n1_; have HO_316001 := n2_; have HO_316002 := n3_; have HO_325001 := n4_; have HO_325002 := n5_; have HO345 := n6_; have HO348 := n7_; have BK290 := n8_; have BK307 := n9_; have BK315 := n10_; have BK324 := n11_; have HB := n12_; clear n0_ n1_ n2_ n3_ n4_ n5_ n6_ n7_ n8_ n9_ n10_ n11_ n12_; (try clear hb); (try clear hb2); (try clear hk); (try clear hi); (try clear ho0); (try clear ho1); obtain ⟨Ao121, co121, eo121⟩ := Kd.R_slice HO345.out; subst eo121; obtain ⟨Ao122, co122, eo122⟩ := Kd.R_slice HO348.out; subst eo122) | ((with_reducible refine gate_callee (f := 48) rfl ?_); refine goesL_ (some 81) rfl rfl Try.func48 (by kernel_rfl) rfl #[.agg #[.int .i64 t342, .slice Ao121 t343.length co121, .slice Ao122 t346.length co122], .int .i64 a1] rfl mt_ ?_; (with_reducible refine (impl_StoreGive.calls kj64 t342 _ _ t343 _ _ t346 a1 t349 t350 t353 t356 _ ?side1 ?side2 ?side3 ?side4 A108.out).mono ?_); (case side1 => repeat (first | exact (Kd.R_reads' HO345.out).2.2 | (with_reducible refine Kd.C_alloc ?_ _) | (with_reducible refine Kd.C_drewN ?_ _) | (with_reducible refine Kd.C_drew ?_))); (case side2 => exact (Kd.R_reads' HO345.out).2.1); (case side3 => repeat (first | exact (Kd.R_reads' HO348.out).2.2 | (with_reducible refine Kd.C_alloc ?_ _) | (with_reducible refine Kd.C_drewN ?_ _) | (with_reducible refine Kd.C_drew ?_))); (case side4 => exact (Kd.R_reads' HO348.out).2.1); rintro e w123 ⟨v351, v354, rfl, ho0, ho1, hb⟩; refine ⟨_, rfl, ?_⟩; have n0_ := Aside0.mk (Kd.R_elder' (kr_ HO_308001) (Kd.R_base ho0) hb); have n1_ := Aside0.mk (Kd.R_elder' (kr_ HO_308002) (Kd.R_base ho1) hb); have n2_ := Aside0.mk (Kd.R_elder' (kr_ HO_316001) (Kd.R_base ho0) hb); have n3_ := Aside0.mk (Kd.R_elder' (kr_ HO_316002) (Kd.R_base ho1) hb); have n4_ := Aside0.mk (Kd.R_elder' (kr_ HO_325001) (Kd.R_base ho0) hb); have n5_ := Aside0.mk (Kd.R_elder' (kr_ HO_325002) (Kd.R_base ho1) hb); have n6_ := Aside0.mk (Kd.R_elder' (kr_ HO345) (Kd.R_base ho0) hb); have n7_ := Aside0.mk (Kd.R_elder' (kr_ HO348) (Kd.R_base ho1) hb); have n8_ := Aside0.mk (Kd.R_lower (Kd.R_new' (Kd.R_new' (Kd.R_new' (Kd.R_new' ho0 (Kd.R_lt (kr_ HO_308001))) (Kd.R_lt (kr_ HO_316001))) (Kd.R_lt (kr_ HO_325001))) (Kd.R_lt (kr_ HO345))) (below_size (by repeat (first | (with_reducible first | exact HB.out | apply below_alloc | apply pw_below_drewN | apply below_drew1 | refine below_set ?_ GE290.out | refine below_set ?_ GE307.out | refine below_set ?_ GE315.out | refine below_set ?_ GE324.out) | exact HB.out)))); have n9_ := Aside0.mk (Kd.R_lower (Kd.R_new' (Kd.R_new' (Kd.R_new' (Kd.R_new' ho1 (Kd.R_lt (kr_ HO_308002))) (Kd.R_lt (kr_ HO_316002))) (Kd.R_lt (kr_ HO_325002))) (Kd.R_lt (kr_ HO348))) (below_size (by repeat (first | (with_reducible first | exact HB.out | apply below_alloc | apply pw_below_drewN | apply below_drew1 | refine below_set ?_ GE290.out | refine below_set ?_ GE307.out | refine below_set ?_ GE315.out | refine below_set ?_ GE324.out) | exact HB.out)))); have n10_ := Aside0.mk (blk_below (g := gb290) (o := .cells #[.int .i64 a0_0, .slice A0_1 l0_1.length c0_1, .slice A0_2 l0_2.length c0_2] 46 (0, 0)) (bk_ BK290) hb); have n11_ := Aside0.mk (blk_below (g := gb307) (o := .cells #[.int .i64 t299, .slice Ao24 t300.length co24, .slice Ao25 t303.length co25] 36 (0, 0)) (bk_ BK307) hb); have n12_ := Aside0.mk (blk_below (g := gb315) (o := .cells #[.int .i64 t308, .slice Ao32 t335.length co32, .slice Ao33 t336.length co33] 36 (0, 0)) (bk_ BK315) hb); have n13_ := Aside0.mk (blk_below (g := gb324) (o := .cells #[.int .i64 t316, .slice Ao40 t317.length co40, .slice Ao41 t320.length co41] 36 (0, 0)) (bk_ BK324) hb); have n14_ := Aside0.mk (below_step (by repeat (first | (with_reducible first | exact HB.out | apply below_alloc | apply pw_below_drewN | apply below_drew1 | refine below_set ?_ GE290.out | refine below_set ?_ GE307.out | refine below_set ?_ GE315.out | refine below_set ?_ GE324.out) | exact HB.out)) hb); clear HO_308001; clear HO_308002; clear HO_316001; clear HO_316002; clear HO_325001; clear HO_325002; clear HO345; clear HO348; clear BK290; clear BK307; clear BK315; clear BK324; clear HB; have HO_308001 := n0_; have HO_308002 := n1_; have HO_316001 := n2_; have HO_316002 := n3_; have HO_325001 := n4_; have HO_325002 := n5_; have HO345 := n6_; have HO348 := n7_; have HO352 := n8_; have HO355 := n9_; have BK290 := n10_; have BK307 := n11_; have BK315 := n12_; have BK324 := n13_; have HB := n14_; clear n0_ n1_ n2_ n3_ n4_ n5_ n6_ n7_ n8_ n9_ n10_ n11_ n12_ n13_ n14_; (try clear hb); (try clear hb2); (try clear hk); (try clear hi); (try clear ho0); (try clear ho1)) | ((with_reducible refine gate_dst (N := 14) rfl ?_); refine box_event ?hg (N := 14) ?hd (cs := #[.int .i64 0, .slice none 0 0, .slice none 0 0]) (t := 36) ?hr ?_; (case hd => rfl); (case hg => rfl); (case hr => first | (go_simp; done) | (go_simp; rfl)); intro gb357 hg w124 hbox hb; have n0_ := Aside0.mk (Kd.R_below (kr_ HO_308001) hb); have n1_ := Aside0.mk (Kd.R_below (kr_ HO_308002) hb); have n2_ := Aside0.mk (Kd.R_below (kr_ HO_316001) hb); have n3_ := Aside0.mk (Kd.R_below (kr_ HO_316002) hb); have n4_ := Aside0.mk (Kd.R_below (kr_ HO_325001) hb); have n5_ := Aside0.mk (Kd.R_below (kr_ HO_325002) hb); have n6_ := Aside0.mk (Kd.R_below (kr_ HO345) hb); have n7_ := Aside0.mk (Kd.R_below (kr_ HO348) hb); have n8_ := Aside0.mk (Kd.R_below (kr_ HO352) hb); have n9_ := Aside0.mk (Kd.R_below (kr_ HO355) hb); have n10_ := Aside0.mk (blk_below (g := gb290) (o := .cells #[.int .i64 a0_0, .slice A0_1 l0_1.length c0_1, .slice A0_2 l0_2.length c0_2] 46 (0, 0)) (bk_ BK290) hb); have n11_ := Aside0.mk (blk_below (g := gb307) (o := .cells #[.int .i64 t299, .slice Ao24 t300.length co24, .slice Ao25 t303.length co25] 36 (0, 0)) (bk_ BK307) hb); have n12_ := Aside0.mk (blk_below (g := gb315) (o := .cells #[.int .i64 t308, .slice Ao32 t335.length co32, .slice Ao33 t336.length co33] 36 (0, 0)) (bk_ BK315) hb); have n13_ := Aside0.mk (blk_below (g := gb324) (o := .cells #[.int .i64 t316, .slice Ao40 t317.length co40, .slice Ao41 t320.length co41] 36 (0, 0)) (bk_ BK324) hb); have n14_ := Aside0.mk (below_step (by repeat (first | (with_reducible first | exact HB.out | apply below_alloc | apply pw_below_drewN | apply below_drew1 | refine below_set ?_ GE290.out | refine below_set ?_ GE307.out | refine below_set ?_ GE315.out | refine below_set ?_ GE324.out) | exact HB.out)) hb); have n15_ := Aside0.mk (hbox); have n16_ := Aside0.mk ((by rw [hg]; exact (below_size (by repeat (first | (with_reducible first | exact HB.out | apply below_alloc | apply pw_below_drewN | apply below_drew1 | refine below_set ?_ GE290.out | refine below_set ?_ GE307.out | refine below_set ?_ GE315.out | refine below_set ?_ GE324.out) | exact HB.out))) : w.heap.size ≤ gb357)); have n17_ := Aside0.mk ((by rw [hg]; exact (below_size (by repeat (first | (with_reducible first | exact HB.out | apply below_alloc | apply pw_below_drewN | apply below_drew1 | refine below_set ?_ GE290.out | refine below_set ?_ GE307.out | refine below_set ?_ GE315.out | refine below_set ?_ GE324.out) | exact HB.out))) : w.heap.size ≤ gb357)); have n18_ := Aside0.mk ((by rw [hg]; exact Nat.ne_of_lt (blk_lt (g := gb290) (o := .cells #[.int .i64 a0_0, .slice A0_1 l0_1.length c0_1, .slice A0_2 l0_2.length c0_2] 46 (0, 0)) (bk_ BK290)) : gb290 ≠ gb357)); have n19_ := Aside0.mk ((by rw [hg]; exact Nat.ne_of_gt (blk_lt (g := gb290) (o := .cells #[.int .i64 a0_0, .slice A0_1 l0_1.length c0_1, .slice A0_2 l0_2.length c0_2] 46 (0, 0)) (bk_ BK290)) : gb357 ≠ gb290)); have n20_ := Aside0.mk ((by rw [hg]; exact Nat.ne_of_lt (blk_lt (g := gb307) (o := .cells #[.int .i64 t299, .slice Ao24 t300.length co24, .slice Ao25 t303.length co25] 36 (0, 0)) (bk_ BK307)) : gb307 ≠ gb357)); have n21_ := Aside0.mk ((by rw [hg]; exact Nat.ne_of_gt (blk_lt (g := gb307) (o := .cells #[.int .i64 t299, .slice Ao24 t300.length co24, .slice Ao25 t303.length co25] 36 (0, 0)) (bk_ BK307)) : gb357 ≠ gb307)); have n22_ := Aside0.mk ((by rw [hg]; exact Nat.ne_of_lt (blk_lt (g := gb315) (o := .cells #[.int .i64 t308, .slice Ao32 t335.length co32, .slice Ao33 t336.length co33] 36 (0, 0)) (bk_ BK315)) : gb315 ≠ gb357)); have n23_ := Aside0.mk ((by rw [hg]; exact Nat.ne_of_gt (blk_lt (g := gb315) (o := .cells #[.int .i64 t308, .slice Ao32 t335.length co32, .slice Ao33 t336.length co33] 36 (0, 0)) (bk_ BK315)) : gb357 ≠ gb315)); have n24_ := Aside0.mk ((by rw [hg]; exact Nat.ne_of_lt (blk_lt (g := gb324) (o := .cells #[.int .i64 t316, .slice Ao40 t317.length co40, .slice Ao41 t320.length co41] 36 (0, 0)) (bk_ BK324)) : gb324 ≠ gb357)); have n25_ := Aside0.mk ((by rw [hg]; exact Nat.ne_of_gt (blk_lt (g := gb324) (o := .cells #[.int .i64 t316, .slice Ao40 t317.length co40, .slice Ao41 t320.length co41] 36 (0, 0)) (bk_ BK324)) : gb357 ≠ gb324)); clear HO_308001; clear HO_308002; clear HO_316001; clear HO_316002; clear HO_325001; clear HO_325002; clear HO345; clear HO348; clear HO352; clear HO355; clear BK290; clear BK307; clear BK315; clear BK324; clear HB; have HO_308001 := n0_; have HO_308002 := n1_; have HO_316001 := n2_; have HO_316002 := n3_; have HO_325001 := n4_; have HO_325002 := n5_; have HO345 := n6_; have HO348 := n7_; have HO352 := n8_; have HO355 := n9_; have BK290 := n10_; have BK307 := n11_; have BK315 := n12_; have BK324 := n13_; have HB := n14_; have BK357 := n15_; have GW357 := n16_; have GE357 := n17_; have NB290_357 := n18_; have NB357_290 := n19_; have NB307_357 := n20_; have NB357_307 := n21_; have NB315_357 := n22_; have NB357_315 := n23_; have NB324_357 := n24_; have NB357_324 := n25_; clear n0_ n1_ n2_ n3_ n4_ n5_ n6_ n7_ n8_ n9_ n10_ n11_ n12_ n13_ n14_ n15_ n16_ n17_ n18_ n19_ n20_ n21_ n22_ n23_ n24_ n25_; clear hb hbox hg; have hnb125 := NB357_290.out; have hnc125 := NB290_357.out; have hnb126 := NB357_307.out; have hnc126 := NB307_357.out; have hnb127 := NB357_315.out; have hnc127 := NB315_357.out; have hnb128 := NB357_324.out; have hnc128 := NB324_357.out; have hcz129_0 : w124.cell? ⟨gb357, 0, none⟩ = some (.int .i64 0) := (blk_cell BK357.out 0).trans rfl; have hcz129_1 : w124.cell? ⟨gb357, 1, none⟩ = some (.slice none 0 0) := (blk_cell BK357.out 1).trans rfl; have hcz129_2 : w124.cell? ⟨gb357, 2, none⟩ = some (.slice none 0 0) := (blk_cell BK357.out 2).trans rfl; have hfz129_0 := blk_frozen BK357.out 0; have hfz129_1 := blk_frozen BK357.out 1; have hfz129_2 := blk_frozen BK357.out 2; obtain ⟨Ao130, co130, eo130⟩ := Kd.R_slice HO352.out; subst eo130; obtain ⟨Ao131, co131, eo131⟩ := Kd.R_slice HO355.out; subst eo131))
           (try simp only [Act.put, List.setIfInBounds_toArray, List.set_cons_zero, List.set_cons_succ])
           go_cut [92] (fun v92 wc => ∃ (kq : Nat) (x92_108 : Bool), v92 = .bool x92_108 ∧ Aside0 (laws_FnExactStoreGive.j2 kq t338 x92_108 t316 t339 t340 = some r) ∧ Aside0 (kq ≤ kj64) ∧ Aside0 (Kd.R (Kd.int .i64) 3 wc w.heap.size (fun k_ => some k_ ≠ ((.slice Ao32 t335.length co32) : Value).ownBlock ∧ some k_ ≠ ((.slice Ao40 t317.length co40) : Value).ownBlock ∧ some k_ ≠ ((.slice Ao130 t350.length co130) : Value).ownBlock) (.slice Ao24 t300.length co24) t300) ∧ Aside0 (Kd.R (Kd.int .u8) 5 wc w.heap.size (fun k_ => some k_ ≠ ((.slice Ao33 t336.length co33) : Value).ownBlock ∧ some k_ ≠ ((.slice Ao41 t320.length co41) : Value).ownBlock ∧ some k_ ≠ ((.slice Ao131 t353.length co131) : Value).ownBlock) (.slice Ao25 t303.length co25) t303) ∧ Aside0 (Kd.R (Kd.int .i64) 3 wc w.heap.size (fun k_ => some k_ ≠ ((.slice Ao24 t300.length co24) : Value).ownBlock ∧ some k_ ≠ ((.slice Ao40 t317.length co40) : Value).ownBlock ∧ some k_ ≠ ((.slice Ao130 t350.length co130) : Value).ownBlock) (.slice Ao32 t335.length co32) t335) ∧ Aside0 (Kd.R (Kd.int .u8) 5 wc w.heap.size (fun k_ => some k_ ≠ ((.slice Ao25 t303.length co25) : Value).ownBlock ∧ some k_ ≠ ((.slice Ao41 t320.length co41) : Value).ownBlock ∧ some k_ ≠ ((.slice Ao131 t353.length co131) : Value).ownBlock) (.slice Ao33 t336.length co33) t336) ∧ Aside0 (Kd.R (Kd.int .i64) 3 wc w.heap.size (fun k_ => some k_ ≠ ((.slice Ao24 t300.length co24) : Value).ownBlock ∧ some k_ ≠ ((.slice Ao32 t335.length co32) : Value).ownBlock ∧ some k_ ≠ ((.slice Ao130 t350.length co130) : Value).ownBlock) (.slice Ao40 t317.length co40) t339) ∧ Aside0 (Kd.R (Kd.int .u8) 5 wc w.heap.size (fun k_ => some k_ ≠ ((.slice Ao25 t303.length co25) : Value).ownBlock ∧ some k_ ≠ ((.slice Ao33 t336.length co33) : Value).ownBlock ∧ some k_ ≠ ((.slice Ao131 t353.length co131) : Value).ownBlock) (.slice Ao41 t320.length co41) t340) ∧ Aside0 (Kd.R (Kd.int .i64) 3 wc w.heap.size (fun k_ => some k_ ≠ ((.slice Ao24 t300.length co24) : Value).ownBlock ∧ some k_ ≠ ((.slice Ao32 t335.length co32) : Value).ownBlock ∧ some k_ ≠ ((.slice Ao40 t317.length co40) : Value).ownBlock) (.slice Ao130 t350.length co130) t350) ∧ Aside0 (Kd.R (Kd.int .u8) 5 wc w.heap.size (fun k_ => some k_ ≠ ((.slice Ao25 t303.length co25) : Value).ownBlock ∧ some k_ ≠ ((.slice Ao33 t336.length co33) : Value).ownBlock ∧ some k_ ≠ ((.slice Ao41 t320.length co41) : Value).ownBlock) (.slice Ao131 t353.length co131) t353) ∧ Aside0 (wc.heap[gb290]? = some (.cells #[.int .i64 a0_0, (.slice A0_1 l0_1.length c0_1), (.slice A0_2 l0_2.length c0_2)] 46 (0, 0))) ∧ Aside0 (wc.heap[gb307]? = some (.cells #[.int .i64 t299, (.slice Ao24 t300.length co24), (.slice Ao25 t303.length co25)] 36 (0, 0))) ∧ Aside0 (wc.heap[gb315]? = some (.cells #[.int .i64 t308, (.slice Ao32 t335.length co32), (.slice Ao33 t336.length co33)] 36 (0, 0))) ∧ Aside0 (wc.heap[gb324]? = some (.cells #[.int .i64 t316, (.slice Ao40 t317.length co40), (.slice Ao41 t320.length co41)] 36 (0, 0))) ∧ Aside0 (wc.heap[gb357]? = some (.cells #[.int .i64 t349, (.slice Ao130 t350.length co130), (.slice Ao131 t353.length co131)] 36 (0, 0))) ∧ Aside0 (Below w.heap.size w wc))
           case first =>
            have H := HC109.out
            clear HC109
            replace H := Option.bind_eq_some_iff.mp H
            obtain ⟨t358, A1320, H⟩ := H
            replace H : (if t358 = true then (laws_FnExactStoreGive.j2 kj64 t338 (t356 != t306) t316 t339 t340) else (laws_FnExactStoreGive.j2 kj64 t338 true t316 t339 t340)) = some r := H
            have A132 := Aside0.mk A1320
            clear A1320
            by_cases c133 : t358 = true
            ·subst c133
             have H1 : (laws_FnExactStoreGive.j2 kj64 t338 (t356 != t306) t316 t339 t340) = some r := by rw [if_pos rfl] at H; exact H
             clear H
             have H := H1
             clear H1
             have H' := Aside0.mk H
             clear H
             have hnb134 := NB357_290.out
             have hnc134 := NB290_357.out
             have hnb135 := NB357_307.out
             have hnc135 := NB307_357.out
             have hnb136 := NB357_315.out
             have hnc136 := NB315_357.out
             have hnb137 := NB357_324.out
             have hnc137 := NB324_357.out
             have hcz138_0 : w124.cell? ⟨gb357, 0, none⟩ = some (.int .i64 0) := (blk_cell BK357.out 0).trans rfl
             have hcz138_1 : w124.cell? ⟨gb357, 1, none⟩ = some (.slice none 0 0) := (blk_cell BK357.out 1).trans rfl
             have hcz138_2 : w124.cell? ⟨gb357, 2, none⟩ = some (.slice none 0 0) := (blk_cell BK357.out 2).trans rfl
             have hfz138_0 := blk_frozen BK357.out 0
             have hfz138_1 := blk_frozen BK357.out 1
             have hfz138_2 := blk_frozen BK357.out 2
             have hnb139 := NB307_290.out
             have hnc139 := NB290_307.out
             have hnb140 := NB307_315.out
             have hnc140 := NB315_307.out
             have hnb141 := NB307_324.out
             have hnc141 := NB324_307.out
             have hcz142_0 : w124.cell? ⟨gb307, 0, none⟩ = some (.int .i64 t299) := (blk_cell BK307.out 0).trans rfl
             have hcz142_1 : w124.cell? ⟨gb307, 1, none⟩ = some (.slice Ao24 t300.length co24) := (blk_cell BK307.out 1).trans rfl
             have hcz142_2 : w124.cell? ⟨gb307, 2, none⟩ = some (.slice Ao25 t303.length co25) := (blk_cell BK307.out 2).trans rfl
             have hfz142_0 := blk_frozen BK307.out 0
             have hfz142_1 := blk_frozen BK307.out 1
             have hfz142_2 := blk_frozen BK307.out 2
             go_wp2_with (first | ((with_reducible refine gate_callee (f := 28) rfl ?_); refine goesL_ (some 86) rfl rfl Try.func28 (by kernel_rfl) rfl #[.agg #[.int .i64 t349, .slice Ao130 t350.length co130, .slice Ao131 t353.length co131], .agg #[.int .i64 t299, .slice Ao24 t300.length co24, .slice Ao25 t303.length co25]] rfl mt_ ?_; (with_reducible refine (laws_eqStore.calls kj64 t349 _ _ t350 _ _ t353 t299 _ _ t300 _ _ t303 true _ ?side1 ?side2 ?side3 ?side4 ?side5 ?side6 ?side7 ?side8 A132.out).mono ?_); (case side1 => refine (Kd.R_reads' (e := 3) (base := w.heap.size) (ok := fun k_ => ((((True ∧ some k_ ≠ (.slice Ao24 t300.length co24 : Value).ownBlock) ∧ some k_ ≠ (.slice Ao32 t335.length co32 : Value).ownBlock) ∧ some k_ ≠ (.slice Ao40 t317.length co40 : Value).ownBlock) ∧ some k_ ≠ (.slice Ao121 t343.length co121 : Value).ownBlock)) (n := t350.length) (c := co130) ?_).2.2; exact (by (with_reducible repeat (first | apply Kd.R_alloc | apply Kd.R_drewN | apply Kd.R_drew)); exact (Kd.R_mono (Kd.R_far (p := ⟨gb357, 2, none⟩) (Kd.R_far (p := ⟨gb357, 1, none⟩) (Kd.R_far (p := ⟨gb357, 0, none⟩) (Kd.R_types HO352.out BK357.out (by decide)) (fun _ hk => by first | exact hk.2 | grind) (.int .i64 t349)) (fun _ hk => by first | exact hk.2 | grind) (.slice Ao130 t350.length co130)) (fun _ hk => by first | exact hk.2 | grind) (.slice Ao131 t353.length co131)) (fun _ h_ => h_.1)))); (case side2 => exact (Kd.R_reads' HO352.out).2.1); (case side3 => refine (Kd.R_reads' (e := 5) (base := w.heap.size) (ok := fun k_ => ((((True ∧ some k_ ≠ (.slice Ao25 t303.length co25 : Value).ownBlock) ∧ some k_ ≠ (.slice Ao33 t336.length co33 : Value).ownBlock) ∧ some k_ ≠ (.slice Ao41 t320.length co41 : Value).ownBlock) ∧ some k_ ≠ (.slice Ao122 t346.length co122 : Value).ownBlock)) (n := t353.length) (c := co131) ?_).2.2; exact (by (with_reducible repeat (first | apply Kd.R_alloc | apply Kd.R_drewN | apply Kd.R_drew)); exact (Kd.R_mono (Kd.R_far (p := ⟨gb357, 2, none⟩) (Kd.R_far (p := ⟨gb357, 1, none⟩) (Kd.R_far (p := ⟨gb357, 0, none⟩) (Kd.R_types HO355.out BK357.out (by decide)) (fun _ hk => by first | exact hk.2 | grind) (.int .i64 t349)) (fun _ hk => by first | exact hk.2 | grind) (.slice Ao130 t350.length co130)) (fun _ hk => by first | exact hk.2 | grind) (.slice Ao131 t353.length co131)) (fun _ h_ => h_.1)))); (case side4 => exact (Kd.R_reads' HO355.out).2.1); (case side5 => refine (Kd.R_reads' (e := 3) (base := w.heap.size) (ok := fun k_ => (((some k_ ≠ (.slice Ao32 t335.length co32 : Value).ownBlock ∧ some k_ ≠ (.slice Ao40 t317.length co40 : Value).ownBlock) ∧ some k_ ≠ (.slice Ao121 t343.length co121 : Value).ownBlock) ∧ some k_ ≠ (.slice Ao130 t350.length co130 : Value).ownBlock)) (n := t300.length) (c := co24) ?_).2.2; exact (by (with_reducible repeat (first | apply Kd.R_alloc | apply Kd.R_drewN | apply Kd.R_drew)); exact (Kd.R_mono (Kd.R_far (p := ⟨gb357, 2, none⟩) (Kd.R_far (p := ⟨gb357, 1, none⟩) (Kd.R_far (p := ⟨gb357, 0, none⟩) (Kd.R_types HO_308001.out BK357.out (by decide)) (fun _ hk => by first | exact hk.2 | grind) (.int .i64 t349)) (fun _ hk => by first | exact hk.2 | grind) (.slice Ao130 t350.length co130)) (fun _ hk => by first | exact hk.2 | grind) (.slice Ao131 t353.length co131)) (fun _ h_ => h_.1)))); (case side6 => exact (Kd.R_reads' HO_308001.out).2.1); (case side7 => refine (Kd.R_reads' (e := 5) (base := w.heap.size) (ok := fun k_ => (((some k_ ≠ (.slice Ao33 t336.length co33 : Value).ownBlock ∧ some k_ ≠ (.slice Ao41 t320.length co41 : Value).ownBlock) ∧ some k_ ≠ (.slice Ao122 t346.length co122 : Value).ownBlock) ∧ some k_ ≠ (.slice Ao131 t353.length co131 : Value).ownBlock)) (n := t303.length) (c := co25) ?_).2.2; exact (by (with_reducible repeat (first | apply Kd.R_alloc | apply Kd.R_drewN | apply Kd.R_drew)); exact (Kd.R_mono (Kd.R_far (p := ⟨gb357, 2, none⟩) (Kd.R_far (p := ⟨gb357, 1, none⟩) (Kd.R_far (p := ⟨gb357, 0, none⟩) (Kd.R_types HO_308002.out BK357.out (by decide)) (fun _ hk => by first | exact hk.2 | grind) (.int .i64 t349)) (fun _ hk => by first | exact hk.2 | grind) (.slice Ao130 t350.length co130)) (fun _ hk => by first | exact hk.2 | grind) (.slice Ao131 t353.length co131)) (fun _ h_ => h_.1)))); (case side8 => exact (Kd.R_reads' HO_308002.out).2.1); rintro e w143 ⟨rfl, hb⟩; refine ⟨_, rfl, ?_⟩; have n0_ := Aside0.mk (Kd.R_below (by (with_reducible repeat (first | apply Kd.R_alloc | apply Kd.R_drewN | apply Kd.R_drew)); exact (Kd.R_mono (Kd.R_far (p := ⟨gb357, 2, none⟩) (Kd.R_far (p := ⟨gb357, 1, none⟩) (Kd.R_far (p := ⟨gb357, 0, none⟩) (Kd.R_types HO_308001.out BK357.out (by decide)) (fun _ hk => by first | exact hk.2 | grind) (.int .i64 t349)) (fun _ hk => by first | exact hk.2 | grind) (.slice Ao130 t350.length co130)) (fun _ hk => by first | exact hk.2 | grind) (.slice Ao131 t353.length co131)) (fun _ h_ => h_.1))) hb); have n1_ := Aside0.mk (Kd.R_below (by (with_reducible repeat (first | apply Kd.R_alloc | apply Kd.R_drewN | apply Kd.R_drew)); exact (Kd.R_mono (Kd.R_far (p := ⟨gb357, 2, none⟩) (Kd.R_far (p := ⟨gb357, 1, none⟩) (Kd.R_far (p := ⟨gb357, 0, none⟩) (Kd.R_types HO_308002.out BK357.out (by decide)) (fun _ hk => by first | exact hk.2 | grind) (.int .i64 t349)) (fun _ hk => by first | exact hk.2 | grind) (.slice Ao130 t350.length co130)) (fun _ hk => by first | exact hk.2 | grind) (.slice Ao131 t353.length co131)) (fun _ h_ => h_.1))) hb); have n2_ := Aside0.mk (Kd.R_below (by (with_reducible repeat (first | apply Kd.R_alloc | apply Kd.R_drewN | apply Kd.R_drew)); exact (Kd.R_mono (Kd.R_far (p := ⟨gb357, 2, none⟩) (Kd.R_far (p := ⟨gb357, 1, none⟩) (Kd.R_far (p := ⟨gb357, 0, none⟩) (Kd.R_types HO_316001.out BK357.out (by decide)) (fun _ hk => by first | exact hk.2 | grind) (.int .i64 t349)) (fun _ hk => by first | exact hk.2 | grind) (.slice Ao130 t350.length co130)) (fun _ hk => by first | exact hk.2 | grind) (.slice Ao131 t353.length co131)) (fun _ h_ => h_.1))) hb); have n3_ := Aside0.mk (Kd.R_below (by (with_reducible repeat (first | apply Kd.R_alloc | apply Kd.R_drewN | apply Kd.R_drew)); exact (Kd.R_mono (Kd.R_far (p := ⟨gb357, 2, none⟩) (Kd.R_far (p := ⟨gb357, 1, none⟩) (Kd.R_far (p := ⟨gb357, 0, none⟩) (Kd.R_types HO_316002.out BK357.out (by decide)) (fun _ hk => by first | exact hk.2 | grind) (.int .i64 t349)) (fun _ hk => by first | exact hk.2 | grind) (.slice Ao130 t350.length co130)) (fun _ hk => by first | exact hk.2 | grind) (.slice Ao131 t353.length co131)) (fun _ h_ => h_.1))) hb); have n4_ := Aside0.mk (Kd.R_below (by (with_reducible repeat (first | apply Kd.R_alloc | apply Kd.R_drewN | apply Kd.R_drew)); exact (Kd.R_mono (Kd.R_far (p := ⟨gb357, 2, none⟩) (Kd.R_far (p := ⟨gb357, 1, none⟩) (Kd.R_far (p := ⟨gb357, 0, none⟩) (Kd.R_types HO_325001.out BK357.out (by decide)) (fun _ hk => by first | exact hk.2 | grind) (.int .i64 t349)) (fun _ hk => by first | exact hk.2 | grind) (.slice Ao130 t350.length co130)) (fun _ hk => by first | exact hk.2 | grind) (.slice Ao131 t353.length co131)) (fun _ h_ => h_.1))) hb); have n5_ := Aside0.mk (Kd.R_below (by (with_reducible repeat (first | apply Kd.R_alloc | apply Kd.R_drewN | apply Kd.R_drew)); exact (Kd.R_mono (Kd.R_far (p := ⟨gb357, 2, none⟩) (Kd.R_far (p := ⟨gb357, 1, none⟩) (Kd.R_far (p := ⟨gb357, 0, none⟩) (Kd.R_types HO_325002.out BK357.out (by decide)) (fun _ hk => by first | exact hk.2 | grind) (.int .i64 t349)) (fun _ hk => by first | exact hk.2 | grind) (.slice Ao130 t350.length co130)) (fun _ hk => by first | exact hk.2 | grind) (.slice Ao131 t353.length co131)) (fun _ h_ => h_.1))) hb); have n6_ := Aside0.mk (Kd.R_below (by (with_reducible repeat (first | apply Kd.R_alloc | apply Kd.R_drewN | apply Kd.R_drew)); exact (Kd.R_mono (Kd.R_far (p := ⟨gb357, 2, none⟩) (Kd.R_far (p := ⟨gb357, 1, none⟩) (Kd.R_far (p := ⟨gb357, 0, none⟩) (Kd.R_types HO345.out BK357.out (by decide)) (fun _ hk => by first | exact hk.2 | grind) (.int .i64 t349)) (fun _ hk => by first | exact hk.2 | grind) (.slice Ao130 t350.length co130)) (fun _ hk => by first | exact hk.2 | grind) (.slice Ao131 t353.length co131)) (fun _ h_ => h_.1))) hb); have n7_ := Aside0.mk (Kd.R_below (by (with_reducible repeat (first | apply Kd.R_alloc | apply Kd.R_drewN | apply Kd.R_drew)); exact (Kd.R_mono (Kd.R_far (p := ⟨gb357, 2, none⟩) (Kd.R_far (p := ⟨gb357, 1, none⟩) (Kd.R_far (p := ⟨gb357, 0, none⟩) (Kd.R_types HO348.out BK357.out (by decide)) (fun _ hk => by first | exact hk.2 | grind) (.int .i64 t349)) (fun _ hk => by first | exact hk.2 | grind) (.slice Ao130 t350.length co130)) (fun _ hk => by first | exact hk.2 | grind) (.slice Ao131 t353.length co131)) (fun _ h_ => h_.1))) hb); have n8_ := Aside0.mk (Kd.R_below (by (with_reducible repeat (first | apply Kd.R_alloc | apply Kd.R_drewN | apply Kd.R_drew)); exact (Kd.R_mono (Kd.R_far (p := ⟨gb357, 2, none⟩) (Kd.R_far (p := ⟨gb357, 1, none⟩) (Kd.R_far (p := ⟨gb357, 0, none⟩) (Kd.R_types HO352.out BK357.out (by decide)) (fun _ hk => by first | exact hk.2 | grind) (.int .i64 t349)) (fun _ hk => by first | exact hk.2 | grind) (.slice Ao130 t350.length co130)) (fun _ hk => by first | exact hk.2 | grind) (.slice Ao131 t353.length co131)) (fun _ h_ => h_.1))) hb); have n9_ := Aside0.mk (Kd.R_below (by (with_reducible repeat (first | apply Kd.R_alloc | apply Kd.R_drewN | apply Kd.R_drew)); exact (Kd.R_mono (Kd.R_far (p := ⟨gb357, 2, none⟩) (Kd.R_far (p := ⟨gb357, 1, none⟩) (Kd.R_far (p := ⟨gb357, 0, none⟩) (Kd.R_types HO355.out BK357.out (by decide)) (fun _ hk => by first | exact hk.2 | grind) (.int .i64 t349)) (fun _ hk => by first | exact hk.2 | grind) (.slice Ao130 t350.length co130)) (fun _ hk => by first | exact hk.2 | grind) (.slice Ao131 t353.length co131)) (fun _ h_ => h_.1))) hb); have n10_ := Aside0.mk (blk_below (g := gb290) (o := .cells #[.int .i64 a0_0, .slice A0_1 l0_1.length c0_1, .slice A0_2 l0_2.length c0_2] 46 (0, 0)) (by (with_reducible repeat (first | refine blk_drewN ?_ _ | refine blk_drew ?_ | refine blk_alloc ?_ _)); refine blk_far ?_ NB290_357.out _; (with_reducible repeat (first | refine blk_drewN ?_ _ | refine blk_drew ?_ | refine blk_alloc ?_ _)); refine blk_far ?_ NB290_357.out _; (with_reducible repeat (first | refine blk_drewN ?_ _ | refine blk_drew ?_ | refine blk_alloc ?_ _)); refine blk_far ?_ NB290_357.out _; exact bk_ BK290) hb); have n11_ := Aside0.mk (blk_below (g := gb307) (o := .cells #[.int .i64 t299, .slice Ao24 t300.length co24, .slice Ao25 t303.length co25] 36 (0, 0)) (by (with_reducible repeat (first | refine blk_drewN ?_ _ | refine blk_drew ?_ | refine blk_alloc ?_ _)); refine blk_far ?_ NB307_357.out _; (with_reducible repeat (first | refine blk_drewN ?_ _ | refine blk_drew ?_ | refine blk_alloc ?_ _)); refine blk_far ?_ NB307_357.out _; (with_reducible repeat (first | refine blk_drewN ?_ _ | refine blk_drew ?_ | refine blk_alloc ?_ _)); refine blk_far ?_ NB307_357.out _; exact bk_ BK307) hb); have n12_ := Aside0.mk (blk_below (g := gb315) (o := .cells #[.int .i64 t308, .slice Ao32 t335.length co32, .slice Ao33 t336.length co33] 36 (0, 0)) (by (with_reducible repeat (first | refine blk_drewN ?_ _ | refine blk_drew ?_ | refine blk_alloc ?_ _)); refine blk_far ?_ NB315_357.out _; (with_reducible repeat (first | refine blk_drewN ?_ _ | refine blk_drew ?_ | refine blk_alloc ?_ _)); refine blk_far ?_ NB315_357.out _; (with_reducible repeat (first | refine blk_drewN ?_ _ | refine blk_drew ?_ | refine blk_alloc ?_ _)); refine blk_far ?_ NB315_357.out _; exact bk_ BK315) hb); have n13_ := Aside0.mk (blk_below (g := gb324) (o := .cells #[.int .i64 t316, .slice Ao40 t317.length co40, .slice Ao41 t320.length co41] 36 (0, 0)) (by (with_reducible repeat (first | refine blk_drewN ?_ _ | refine blk_drew ?_ | refine blk_alloc ?_ _)); refine blk_far ?_ NB324_357.out _; (with_reducible repeat (first | refine blk_drewN ?_ _ | refine blk_drew ?_ | refine blk_alloc ?_ _)); refine blk_far ?_ NB324_357.out _; (with_reducible repeat (first | refine blk_drewN ?_ _ | refine blk_drew ?_ | refine blk_alloc ?_ _)); refine blk_far ?_ NB324_357.out _; exact bk_ BK324) hb); have n14_ := Aside0.mk (blk_below (g := gb357) (o := .cells #[.int .i64 t349, .slice Ao130 t350.length co130, .slice Ao131 t353.length co131] 36 (0, 0)) (by (with_reducible repeat (first | refine blk_drewN ?_ _ | refine blk_drew ?_ | refine blk_alloc ?_ _)); refine blk_put (cs := #[.int .i64 t349, .slice Ao130 t350.length co130, .slice none 0 0]) ?_ 2 _ rfl; (with_reducible repeat (first | refine blk_drewN ?_ _ | refine blk_drew ?_ | refine blk_alloc ?_ _)); refine blk_put (cs := #[.int .i64 t349, .slice none 0 0, .slice none 0 0]) ?_ 1 _ rfl; (with_reducible repeat (first | refine blk_drewN ?_ _ | refine blk_drew ?_ | refine blk_alloc ?_ _)); refine blk_put (cs := #[.int .i64 0, .slice none 0 0, .slice none 0 0]) ?_ 0 _ rfl; exact bk_ BK357) hb); have n15_ := Aside0.mk (below_step (by repeat (first | (with_reducible first | exact HB.out | apply below_alloc | apply pw_below_drewN | apply below_drew1 | refine below_set ?_ GE290.out | refine below_set ?_ GE307.out | refine below_set ?_ GE315.out | refine below_set ?_ GE324.out | refine below_set ?_ GE357.out) | exact HB.out)) hb); clear HO_308001; clear HO_308002; clear HO_316001; clear HO_316002; clear HO_325001; clear HO_325002; clear HO345; clear HO348; clear HO352; clear HO355; clear BK290; clear BK307; clear BK315; clear BK324; clear BK357; clear HB; have HO_308001 := n0_; have HO_308002 := n1_; have HO_316001 := n2_; have HO_316002 := n3_; have HO_325001 := n4_; have HO_325002 := n5_; have HO345 := n6_; have HO348 := n7_; have HO352 := n8_; have HO355 := n9_; have BK290 := n10_; have BK307 := n11_; have BK315 := n12_; have BK324 := n13_; have BK357 := n14_; have HB := n15_; clear n0_ n1_ n2_ n3_ n4_ n5_ n6_ n7_ n8_ n9_ n10_ n11_ n12_ n13_ n14_ n15_; (try clear hb); (try clear hb2); (try clear hk); (try clear hi)))
             go_meet
             case rel => exact ⟨_, ((t356 != t306)), (by first | rfl | (simp; done) | (simp [*]; done)), H', ⟨by have := HJ11.out; have := HJ64.out; first | omega | exact Nat.le_refl _⟩, ⟨by (try simp only [hl316001_64]); (try simp only [hl316002_64]); (with_reducible repeat (first | apply Kd.R_alloc | apply Kd.R_drewN | apply Kd.R_drew)); exact Kd.R_mono HO_308001.out (fun _ hk => by first | exact ⟨hk.1.1.1, ⟨hk.1.1.2, hk.2⟩⟩ | grind)⟩, ⟨by (try simp only [hl316001_64]); (try simp only [hl316002_64]); (with_reducible repeat (first | apply Kd.R_alloc | apply Kd.R_drewN | apply Kd.R_drew)); exact Kd.R_mono HO_308002.out (fun _ hk => by first | exact ⟨hk.1.1.1, ⟨hk.1.1.2, hk.2⟩⟩ | grind)⟩, ⟨by (try simp only [hl316001_64]); (try simp only [hl316002_64]); (with_reducible repeat (first | apply Kd.R_alloc | apply Kd.R_drewN | apply Kd.R_drew)); exact Kd.R_mono HO_316001.out (fun _ hk => by first | exact ⟨hk.1.1.1, ⟨hk.1.1.2, hk.2⟩⟩ | grind)⟩, ⟨by (try simp only [hl316001_64]); (try simp only [hl316002_64]); (with_reducible repeat (first | apply Kd.R_alloc | apply Kd.R_drewN | apply Kd.R_drew)); exact Kd.R_mono HO_316002.out (fun _ hk => by first | exact ⟨hk.1.1.1, ⟨hk.1.1.2, hk.2⟩⟩ | grind)⟩, ⟨by (try simp only [hl316001_64]); (try simp only [hl316002_64]); (with_reducible repeat (first | apply Kd.R_alloc | apply Kd.R_drewN | apply Kd.R_drew)); exact Kd.R_mono HO_325001.out (fun _ hk => by first | exact ⟨hk.1.1.1, ⟨hk.1.1.2, hk.2⟩⟩ | grind)⟩, ⟨by (try simp only [hl316001_64]); (try simp only [hl316002_64]); (with_reducible repeat (first | apply Kd.R_alloc | apply Kd.R_drewN | apply Kd.R_drew)); exact Kd.R_mono HO_325002.out (fun _ hk => by first | exact ⟨hk.1.1.1, ⟨hk.1.1.2, hk.2⟩⟩ | grind)⟩, ⟨by (try simp only [hl316001_64]); (try simp only [hl316002_64]); (with_reducible repeat (first | apply Kd.R_alloc | apply Kd.R_drewN | apply Kd.R_drew)); exact Kd.R_mono HO352.out (fun _ hk => by first | exact ⟨hk.1.1.1.2, ⟨hk.1.1.2, hk.1.2⟩⟩ | grind)⟩, ⟨by (try simp only [hl316001_64]); (try simp only [hl316002_64]); (with_reducible repeat (first | apply Kd.R_alloc | apply Kd.R_drewN | apply Kd.R_drew)); exact Kd.R_mono HO355.out (fun _ hk => by first | exact ⟨hk.1.1.1.2, ⟨hk.1.1.2, hk.1.2⟩⟩ | grind)⟩, ⟨by (try simp only [hl316001_64]); (try simp only [hl316002_64]); exact bk_ BK290⟩, ⟨by (try simp only [hl316001_64]); (try simp only [hl316002_64]); exact bk_ BK307⟩, ⟨by (try simp only [hl316001_64]); (try simp only [hl316002_64]); exact bk_ BK315⟩, ⟨by (try simp only [hl316001_64]); (try simp only [hl316002_64]); exact bk_ BK324⟩, ⟨by (try simp only [hl316001_64]); (try simp only [hl316002_64]); exact bk_ BK357⟩, ⟨by repeat (first | (with_reducible first | exact HB.out | apply below_alloc | apply pw_below_drewN | apply below_drew1 | refine below_set ?_ GE290.out | refine below_set ?_ GE307.out | refine below_set ?_ GE315.out | refine below_set ?_ GE324.out | refine below_set ?_ GE357.out) | exact HB.out)⟩⟩
            ·replace c133 := Bool.eq_false_iff.mpr c133
             subst c133
             have H1 : (laws_FnExactStoreGive.j2 kj64 t338 true t316 t339 t340) = some r := by rw [if_neg (show ¬ (false = true) by decide)] at H; exact H
             clear H
             have H := H1
             clear H1
             have H' := Aside0.mk H
             clear H
             have hnb144 := NB357_290.out
             have hnc144 := NB290_357.out
             have hnb145 := NB357_307.out
             have hnc145 := NB307_357.out
             have hnb146 := NB357_315.out
             have hnc146 := NB315_357.out
             have hnb147 := NB357_324.out
             have hnc147 := NB324_357.out
             have hcz148_0 : w124.cell? ⟨gb357, 0, none⟩ = some (.int .i64 0) := (blk_cell BK357.out 0).trans rfl
             have hcz148_1 : w124.cell? ⟨gb357, 1, none⟩ = some (.slice none 0 0) := (blk_cell BK357.out 1).trans rfl
             have hcz148_2 : w124.cell? ⟨gb357, 2, none⟩ = some (.slice none 0 0) := (blk_cell BK357.out 2).trans rfl
             have hfz148_0 := blk_frozen BK357.out 0
             have hfz148_1 := blk_frozen BK357.out 1
             have hfz148_2 := blk_frozen BK357.out 2
             have hnb149 := NB307_290.out
             have hnc149 := NB290_307.out
             have hnb150 := NB307_315.out
             have hnc150 := NB315_307.out
             have hnb151 := NB307_324.out
             have hnc151 := NB324_307.out
             have hcz152_0 : w124.cell? ⟨gb307, 0, none⟩ = some (.int .i64 t299) := (blk_cell BK307.out 0).trans rfl
             have hcz152_1 : w124.cell? ⟨gb307, 1, none⟩ = some (.slice Ao24 t300.length co24) := (blk_cell BK307.out 1).trans rfl
             have hcz152_2 : w124.cell? ⟨gb307, 2, none⟩ = some (.slice Ao25 t303.length co25) := (blk_cell BK307.out 2).trans rfl
             have hfz152_0 := blk_frozen BK307.out 0
             have hfz152_1 := blk_frozen BK307.out 1
             have hfz152_2 := blk_frozen BK307.out 2
             go_wp2_with (first | ((with_reducible refine gate_callee (f := 28) rfl ?_); refine goesL_ (some 86) rfl rfl Try.func28 (by kernel_rfl) rfl #[.agg #[.int .i64 t349, .slice Ao130 t350.length co130, .slice Ao131 t353.length co131], .agg #[.int .i64 t299, .slice Ao24 t300.length co24, .slice Ao25 t303.length co25]] rfl mt_ ?_; (with_reducible refine (laws_eqStore.calls kj64 t349 _ _ t350 _ _ t353 t299 _ _ t300 _ _ t303 false _ ?side1 ?side2 ?side3 ?side4 ?side5 ?side6 ?side7 ?side8 A132.out).mono ?_); (case side1 => refine (Kd.R_reads' (e := 3) (base := w.heap.size) (ok := fun k_ => ((((True ∧ some k_ ≠ (.slice Ao24 t300.length co24 : Value).ownBlock) ∧ some k_ ≠ (.slice Ao32 t335.length co32 : Value).ownBlock) ∧ some k_ ≠ (.slice Ao40 t317.length co40 : Value).ownBlock) ∧ some k_ ≠ (.slice Ao121 t343.length co121 : Value).ownBlock)) (n := t350.length) (c := co130) ?_).2.2; exact (by (with_reducible repeat (first | apply Kd.R_alloc | apply Kd.R_drewN | apply Kd.R_drew)); exact (Kd.R_mono (Kd.R_far (p := ⟨gb357, 2, none⟩) (Kd.R_far (p := ⟨gb357, 1, none⟩) (Kd.R_far (p := ⟨gb357, 0, none⟩) (Kd.R_types HO352.out BK357.out (by decide)) (fun _ hk => by first | exact hk.2 | grind) (.int .i64 t349)) (fun _ hk => by first | exact hk.2 | grind) (.slice Ao130 t350.length co130)) (fun _ hk => by first | exact hk.2 | grind) (.slice Ao131 t353.length co131)) (fun _ h_ => h_.1)))); (case side2 => exact (Kd.R_reads' HO352.out).2.1); (case side3 => refine (Kd.R_reads' (e := 5) (base := w.heap.size) (ok := fun k_ => ((((True ∧ some k_ ≠ (.slice Ao25 t303.length co25 : Value).ownBlock) ∧ some k_ ≠ (.slice Ao33 t336.length co33 : Value).ownBlock) ∧ some k_ ≠ (.slice Ao41 t320.length co41 : Value).ownBlock) ∧ some k_ ≠ (.slice Ao122 t346.length co122 : Value).ownBlock)) (n := t353.length) (c := co131) ?_).2.2; exact (by (with_reducible repeat (first | apply Kd.R_alloc | apply Kd.R_drewN | apply Kd.R_drew)); exact (Kd.R_mono (Kd.R_far (p := ⟨gb357, 2, none⟩) (Kd.R_far (p := ⟨gb357, 1, none⟩) (Kd.R_far (p := ⟨gb357, 0, none⟩) (Kd.R_types HO355.out BK357.out (by decide)) (fun _ hk => by first | exact hk.2 | grind) (.int .i64 t349)) (fun _ hk => by first | exact hk.2 | grind) (.slice Ao130 t350.length co130)) (fun _ hk => by first | exact hk.2 | grind) (.slice Ao131 t353.length co131)) (fun _ h_ => h_.1)))); (case side4 => exact (Kd.R_reads' HO355.out).2.1); (case side5 => refine (Kd.R_reads' (e := 3) (base := w.heap.size) (ok := fun k_ => (((some k_ ≠ (.slice Ao32 t335.length co32 : Value).ownBlock ∧ some k_ ≠ (.slice Ao40 t317.length co40 : Value).ownBlock) ∧ some k_ ≠ (.slice Ao121 t343.length co121 : Value).ownBlock) ∧ some k_ ≠ (.slice Ao130 t350.length co130 : Value).ownBlock)) (n := t300.length) (c := co24) ?_).2.2; exact (by (with_reducible repeat (first | apply Kd.R_alloc | apply Kd.R_drewN | apply Kd.R_drew)); exact (Kd.R_mono (Kd.R_far (p := ⟨gb357, 2, none⟩) (Kd.R_far (p := ⟨gb357, 1, none⟩) (Kd.R_far (p := ⟨gb357, 0, none⟩) (Kd.R_types HO_308001.out BK357.out (by decide)) (fun _ hk => by first | exact hk.2 | grind) (.int .i64 t349)) (fun _ hk => by first | exact hk.2 | grind) (.slice Ao130 t350.length co130)) (fun _ hk => by first | exact hk.2 | grind) (.slice Ao131 t353.length co131)) (fun _ h_ => h_.1)))); (case side6 => exact (Kd.R_reads' HO_308001.out).2.1); (case side7 => refine (Kd.R_reads' (e := 5) (base := w.heap.size) (ok := fun k_ => (((some k_ ≠ (.slice Ao33 t336.length co33 : Value).ownBlock ∧ some k_ ≠ (.slice Ao41 t320.length co41 : Value).ownBlock) ∧ some k_ ≠ (.slice Ao122 t346.length co122 : Value).ownBlock) ∧ some k_ ≠ (.slice Ao131 t353.length co131 : Value).ownBlock)) (n := t303.length) (c := co25) ?_).2.2; exact (by (with_reducible repeat (first | apply Kd.R_alloc | apply Kd.R_drewN | apply Kd.R_drew)); exact (Kd.R_mono (Kd.R_far (p := ⟨gb357, 2, none⟩) (Kd.R_far (p := ⟨gb357, 1, none⟩) (Kd.R_far (p := ⟨gb357, 0, none⟩) (Kd.R_types HO_308002.out BK357.out (by decide)) (fun _ hk => by first | exact hk.2 | grind) (.int .i64 t349)) (fun _ hk => by first | exact hk.2 | grind) (.slice Ao130 t350.length co130)) (fun _ hk => by first | exact hk.2 | grind) (.slice Ao131 t353.length co131)) (fun _ h_ => h_.1)))); (case side8 => exact (Kd.R_reads' HO_308002.out).2.1); rintro e w153 ⟨rfl, hb⟩; refine ⟨_, rfl, ?_⟩; have n0_ := Aside0.mk (Kd.R_below (by (with_reducible repeat (first | apply Kd.R_alloc | apply Kd.R_drewN | apply Kd.R_drew)); exact (Kd.R_mono (Kd.R_far (p := ⟨gb357, 2, none⟩) (Kd.R_far (p := ⟨gb357, 1, none⟩) (Kd.R_far (p := ⟨gb357, 0, none⟩) (Kd.R_types HO_308001.out BK357.out (by decide)) (fun _ hk => by first | exact hk.2 | grind) (.int .i64 t349)) (fun _ hk => by first | exact hk.2 | grind) (.slice Ao130 t350.length co130)) (fun _ hk => by first | exact hk.2 | grind) (.slice Ao131 t353.length co131)) (fun _ h_ => h_.1))) hb); have n1_ := Aside0.mk (Kd.R_below (by (with_reducible repeat (first | apply Kd.R_alloc | apply Kd.R_drewN | apply Kd.R_drew)); exact (Kd.R_mono (Kd.R_far (p := ⟨gb357, 2, none⟩) (Kd.R_far (p := ⟨gb357, 1, none⟩) (Kd.R_far (p := ⟨gb357, 0, none⟩) (Kd.R_types HO_308002.out BK357.out (by decide)) (fun _ hk => by first | exact hk.2 | grind) (.int .i64 t349)) (fun _ hk => by first | exact hk.2 | grind) (.slice Ao130 t350.length co130)) (fun _ hk => by first | exact hk.2 | grind) (.slice Ao131 t353.length co131)) (fun _ h_ => h_.1))) hb); have n2_ := Aside0.mk (Kd.R_below (by (with_reducible repeat (first | apply Kd.R_alloc | apply Kd.R_drewN | apply Kd.R_drew)); exact (Kd.R_mono (Kd.R_far (p := ⟨gb357, 2, none⟩) (Kd.R_far (p := ⟨gb357, 1, none⟩) (Kd.R_far (p := ⟨gb357, 0, none⟩) (Kd.R_types HO_316001.out BK357.out (by decide)) (fun _ hk => by first | exact hk.2 | grind) (.int .i64 t349)) (fun _ hk => by first | exact hk.2 | grind) (.slice Ao130 t350.length co130)) (fun _ hk => by first | exact hk.2 | grind) (.slice Ao131 t353.length co131)) (fun _ h_ => h_.1))) hb); have n3_ := Aside0.mk (Kd.R_below (by (with_reducible repeat (first | apply Kd.R_alloc | apply Kd.R_drewN | apply Kd.R_drew)); exact (Kd.R_mono (Kd.R_far (p := ⟨gb357, 2, none⟩) (Kd.R_far (p := ⟨gb357, 1, none⟩) (Kd.R_far (p := ⟨gb357, 0, none⟩) (Kd.R_types HO_316002.out BK357.out (by decide)) (fun _ hk => by first | exact hk.2 | grind) (.int .i64 t349)) (fun _ hk => by first | exact hk.2 | grind) (.slice Ao130 t350.length co130)) (fun _ hk => by first | exact hk.2 | grind) (.slice Ao131 t353.length co131)) (fun _ h_ => h_.1))) hb); have n4_ := Aside0.mk (Kd.R_below (by (with_reducible repeat (first | apply Kd.R_alloc | apply Kd.R_drewN | apply Kd.R_drew)); exact (Kd.R_mono (Kd.R_far (p := ⟨gb357, 2, none⟩) (Kd.R_far (p := ⟨gb357, 1, none⟩) (Kd.R_far (p := ⟨gb357, 0, none⟩) (Kd.R_types HO_325001.out BK357.out (by decide)) (fun _ hk => by first | exact hk.2 | grind) (.int .i64 t349)) (fun _ hk => by first | exact hk.2 | grind) (.slice Ao130 t350.length co130)) (fun _ hk => by first | exact hk.2 | grind) (.slice Ao131 t353.length co131)) (fun _ h_ => h_.1))) hb); have n5_ := Aside0.mk (Kd.R_below (by (with_reducible repeat (first | apply Kd.R_alloc | apply Kd.R_drewN | apply Kd.R_drew)); exact (Kd.R_mono (Kd.R_far (p := ⟨gb357, 2, none⟩) (Kd.R_far (p := ⟨gb357, 1, none⟩) (Kd.R_far (p := ⟨gb357, 0, none⟩) (Kd.R_types HO_325002.out BK357.out (by decide)) (fun _ hk => by first | exact hk.2 | grind) (.int .i64 t349)) (fun _ hk => by first | exact hk.2 | grind) (.slice Ao130 t350.length co130)) (fun _ hk => by first | exact hk.2 | grind) (.slice Ao131 t353.length co131)) (fun _ h_ => h_.1))) hb); have n6_ := Aside0.mk (Kd.R_below (by (with_reducible repeat (first | apply Kd.R_alloc | apply Kd.R_drewN | apply Kd.R_drew)); exact (Kd.R_mono (Kd.R_far (p := ⟨gb357, 2, none⟩) (Kd.R_far (p := ⟨gb357, 1, none⟩) (Kd.R_far (p := ⟨gb357, 0, none⟩) (Kd.R_types HO345.out BK357.out (by decide)) (fun _ hk => by first | exact hk.2 | grind) (.int .i64 t349)) (fun _ hk => by first | exact hk.2 | grind) (.slice Ao130 t350.length co130)) (fun _ hk => by first | exact hk.2 | grind) (.slice Ao131 t353.length co131)) (fun _ h_ => h_.1))) hb); have n7_ := Aside0.mk (Kd.R_below (by (with_reducible repeat (first | apply Kd.R_alloc | apply Kd.R_drewN | apply Kd.R_drew)); exact (Kd.R_mono (Kd.R_far (p := ⟨gb357, 2, none⟩) (Kd.R_far (p := ⟨gb357, 1, none⟩) (Kd.R_far (p := ⟨gb357, 0, none⟩) (Kd.R_types HO348.out BK357.out (by decide)) (fun _ hk => by first | exact hk.2 | grind) (.int .i64 t349)) (fun _ hk => by first | exact hk.2 | grind) (.slice Ao130 t350.length co130)) (fun _ hk => by first | exact hk.2 | grind) (.slice Ao131 t353.length co131)) (fun _ h_ => h_.1))) hb); have n8_ := Aside0.mk (Kd.R_below (by (with_reducible repeat (first | apply Kd.R_alloc | apply Kd.R_drewN | apply Kd.R_drew)); exact (Kd.R_mono (Kd.R_far (p := ⟨gb357, 2, none⟩) (Kd.R_far (p := ⟨gb357, 1, none⟩) (Kd.R_far (p := ⟨gb357, 0, none⟩) (Kd.R_types HO352.out BK357.out (by decide)) (fun _ hk => by first | exact hk.2 | grind) (.int .i64 t349)) (fun _ hk => by first | exact hk.2 | grind) (.slice Ao130 t350.length co130)) (fun _ hk => by first | exact hk.2 | grind) (.slice Ao131 t353.length co131)) (fun _ h_ => h_.1))) hb); have n9_ := Aside0.mk (Kd.R_below (by (with_reducible repeat (first | apply Kd.R_alloc | apply Kd.R_drewN | apply Kd.R_drew)); exact (Kd.R_mono (Kd.R_far (p := ⟨gb357, 2, none⟩) (Kd.R_far (p := ⟨gb357, 1, none⟩) (Kd.R_far (p := ⟨gb357, 0, none⟩) (Kd.R_types HO355.out BK357.out (by decide)) (fun _ hk => by first | exact hk.2 | grind) (.int .i64 t349)) (fun _ hk => by first | exact hk.2 | grind) (.slice Ao130 t350.length co130)) (fun _ hk => by first | exact hk.2 | grind) (.slice Ao131 t353.length co131)) (fun _ h_ => h_.1))) hb); have n10_ := Aside0.mk (blk_below (g := gb290) (o := .cells #[.int .i64 a0_0, .slice A0_1 l0_1.length c0_1, .slice A0_2 l0_2.length c0_2] 46 (0, 0)) (by (with_reducible repeat (first | refine blk_drewN ?_ _ | refine blk_drew ?_ | refine blk_alloc ?_ _)); refine blk_far ?_ NB290_357.out _; (with_reducible repeat (first | refine blk_drewN ?_ _ | refine blk_drew ?_ | refine blk_alloc ?_ _)); refine blk_far ?_ NB290_357.out _; (with_reducible repeat (first | refine blk_drewN ?_ _ | refine blk_drew ?_ | refine blk_alloc ?_ _)); refine blk_far ?_ NB290_357.out _; exact bk_ BK290) hb); have n11_ := Aside0.mk (blk_below (g := gb307) (o := .cells #[.int .i64 t299, .slice Ao24 t300.length co24, .slice Ao25 t303.length co25] 36 (0, 0)) (by (with_reducible repeat (first | refine blk_drewN ?_ _ | refine blk_drew ?_ | refine blk_alloc ?_ _)); refine blk_far ?_ NB307_357.out _; (with_reducible repeat (first | refine blk_drewN ?_ _ | refine blk_drew ?_ | refine blk_alloc ?_ _)); refine blk_far ?_ NB307_357.out _; (with_reducible repeat (first | refine blk_drewN ?_ _ | refine blk_drew ?_ | refine blk_alloc ?_ _)); refine blk_far ?_ NB307_357.out _; exact bk_ BK307) hb); have n12_ := Aside0.mk (blk_below (g := gb315) (o := .cells #[.int .i64 t308, .slice Ao32 t335.length co32, .slice Ao33 t336.length co33] 36 (0, 0)) (by (with_reducible repeat (first | refine blk_drewN ?_ _ | refine blk_drew ?_ | refine blk_alloc ?_ _)); refine blk_far ?_ NB315_357.out _; (with_reducible repeat (first | refine blk_drewN ?_ _ | refine blk_drew ?_ | refine blk_alloc ?_ _)); refine blk_far ?_ NB315_357.out _; (with_reducible repeat (first | refine blk_drewN ?_ _ | refine blk_drew ?_ | refine blk_alloc ?_ _)); refine blk_far ?_ NB315_357.out _; exact bk_ BK315) hb); have n13_ := Aside0.mk (blk_below (g := gb324) (o := .cells #[.int .i64 t316, .slice Ao40 t317.length co40, .slice Ao41 t320.length co41] 36 (0, 0)) (by (with_reducible repeat (first | refine blk_drewN ?_ _ | refine blk_drew ?_ | refine blk_alloc ?_ _)); refine blk_far ?_ NB324_357.out _; (with_reducible repeat (first | refine blk_drewN ?_ _ | refine blk_drew ?_ | refine blk_alloc ?_ _)); refine blk_far ?_ NB324_357.out _; (with_reducible repeat (first | refine blk_drewN ?_ _ | refine blk_drew ?_ | refine blk_alloc ?_ _)); refine blk_far ?_ NB324_357.out _; exact bk_ BK324) hb); have n14_ := Aside0.mk (blk_below (g := gb357) (o := .cells #[.int .i64 t349, .slice Ao130 t350.length co130, .slice Ao131 t353.length co131] 36 (0, 0)) (by (with_reducible repeat (first | refine blk_drewN ?_ _ | refine blk_drew ?_ | refine blk_alloc ?_ _)); refine blk_put (cs := #[.int .i64 t349, .slice Ao130 t350.length co130, .slice none 0 0]) ?_ 2 _ rfl; (with_reducible repeat (first | refine blk_drewN ?_ _ | refine blk_drew ?_ | refine blk_alloc ?_ _)); refine blk_put (cs := #[.int .i64 t349, .slice none 0 0, .slice none 0 0]) ?_ 1 _ rfl; (with_reducible repeat (first | refine blk_drewN ?_ _ | refine blk_drew ?_ | refine blk_alloc ?_ _)); refine blk_put (cs := #[.int .i64 0, .slice none 0 0, .slice none 0 0]) ?_ 0 _ rfl; exact bk_ BK357) hb); have n15_ := Aside0.mk (below_step (by repeat (first | (with_reducible first | exact HB.out | apply below_alloc | apply pw_below_drewN | apply below_drew1 | refine below_set ?_ GE290.out | refine below_set ?_ GE307.out | refine below_set ?_ GE315.out | refine below_set ?_ GE324.out | refine below_set ?_ GE357.out) | exact HB.out)) hb); clear HO_308001; clear HO_308002; clear HO_316001; clear HO_316002; clear HO_325001; clear HO_325002; clear HO345; clear HO348; clear HO352; clear HO355; clear BK290; clear BK307; clear BK315; clear BK324; clear BK357; clear HB; have HO_308001 := n0_; have HO_308002 := n1_; have HO_316001 := n2_; have HO_316002 := n3_; have HO_325001 := n4_; have HO_325002 := n5_; have HO345 := n6_; have HO348 := n7_; have HO352 := n8_; have HO355 := n9_; have BK290 := n10_; have BK307 := n11_; have BK315 := n12_; have BK324 := n13_; have BK357 := n14_; have HB := n15_; clear n0_ n1_ n2_ n3_ n4_ n5_ n6_ n7_ n8_ n9_ n10_ n11_ n12_ n13_ n14_ n15_; (try clear hb); (try clear hb2); (try clear hk); (try clear hi)))
             go_meet
             case rel => exact ⟨_, (true), (by first | rfl | (simp; done) | (simp [*]; done)), H', ⟨by have := HJ11.out; have := HJ64.out; first | omega | exact Nat.le_refl _⟩, ⟨by (try simp only [hl316001_64]); (try simp only [hl316002_64]); (with_reducible repeat (first | apply Kd.R_alloc | apply Kd.R_drewN | apply Kd.R_drew)); exact Kd.R_mono HO_308001.out (fun _ hk => by first | exact ⟨hk.1.1.1, ⟨hk.1.1.2, hk.2⟩⟩ | grind)⟩, ⟨by (try simp only [hl316001_64]); (try simp only [hl316002_64]); (with_reducible repeat (first | apply Kd.R_alloc | apply Kd.R_drewN | apply Kd.R_drew)); exact Kd.R_mono HO_308002.out (fun _ hk => by first | exact ⟨hk.1.1.1, ⟨hk.1.1.2, hk.2⟩⟩ | grind)⟩, ⟨by (try simp only [hl316001_64]); (try simp only [hl316002_64]); (with_reducible repeat (first | apply Kd.R_alloc | apply Kd.R_drewN | apply Kd.R_drew)); exact Kd.R_mono HO_316001.out (fun _ hk => by first | exact ⟨hk.1.1.1, ⟨hk.1.1.2, hk.2⟩⟩ | grind)⟩, ⟨by (try simp only [hl316001_64]); (try simp only [hl316002_64]); (with_reducible repeat (first | apply Kd.R_alloc | apply Kd.R_drewN | apply Kd.R_drew)); exact Kd.R_mono HO_316002.out (fun _ hk => by first | exact ⟨hk.1.1.1, ⟨hk.1.1.2, hk.2⟩⟩ | grind)⟩, ⟨by (try simp only [hl316001_64]); (try simp only [hl316002_64]); (with_reducible repeat (first | apply Kd.R_alloc | apply Kd.R_drewN | apply Kd.R_drew)); exact Kd.R_mono HO_325001.out (fun _ hk => by first | exact ⟨hk.1.1.1, ⟨hk.1.1.2, hk.2⟩⟩ | grind)⟩, ⟨by (try simp only [hl316001_64]); (try simp only [hl316002_64]); (with_reducible repeat (first | apply Kd.R_alloc | apply Kd.R_drewN | apply Kd.R_drew)); exact Kd.R_mono HO_325002.out (fun _ hk => by first | exact ⟨hk.1.1.1, ⟨hk.1.1.2, hk.2⟩⟩ | grind)⟩, ⟨by (try simp only [hl316001_64]); (try simp only [hl316002_64]); (with_reducible repeat (first | apply Kd.R_alloc | apply Kd.R_drewN | apply Kd.R_drew)); exact Kd.R_mono HO352.out (fun _ hk => by first | exact ⟨hk.1.1.1.2, ⟨hk.1.1.2, hk.1.2⟩⟩ | grind)⟩, ⟨by (try simp only [hl316001_64]); (try simp only [hl316002_64]); (with_reducible repeat (first | apply Kd.R_alloc | apply Kd.R_drewN | apply Kd.R_drew)); exact Kd.R_mono HO355.out (fun _ hk => by first | exact ⟨hk.1.1.1.2, ⟨hk.1.1.2, hk.1.2⟩⟩ | grind)⟩, ⟨by (try simp only [hl316001_64]); (try simp only [hl316002_64]); exact bk_ BK290⟩, ⟨by (try simp only [hl316001_64]); (try simp only [hl316002_64]); exact bk_ BK307⟩, ⟨by (try simp only [hl316001_64]); (try simp only [hl316002_64]); exact bk_ BK315⟩, ⟨by (try simp only [hl316001_64]); (try simp only [hl316002_64]); exact bk_ BK324⟩, ⟨by (try simp only [hl316001_64]); (try simp only [hl316002_64]); exact bk_ BK357⟩, ⟨by repeat (first | (with_reducible first | exact HB.out | apply below_alloc | apply pw_below_drewN | apply below_drew1 | refine below_set ?_ GE290.out | refine below_set ?_ GE307.out | refine below_set ?_ GE315.out | refine below_set ?_ GE324.out | refine below_set ?_ GE357.out) | exact HB.out)⟩⟩
           case rest =>
            clear HC109
            try clear c1
            try clear c2
            try clear p2
            try clear c3
            try clear c4
            try clear c4b0
            try clear c5
            try clear c6
            try clear c7
            try clear c8
            try clear c9
            try clear c10
            try clear c11
            try clear c12
            try clear c13
            try clear c14
            try clear c15
            try clear c22
            try clear c28
            try clear c29
            try clear c30
            try clear c36
            try clear c37
            try clear c38
            try clear c40
            try clear c43
            try clear c44
            try clear c45
            try clear c46
            try clear c48
            try clear c49
            try clear c52
            try clear c53
            try clear c54
            try clear c56
            try clear c57
            try clear c60
            try clear c63
            try clear c71
            try clear c72
            try clear c73
            try clear c76
            try clear c76b0
            try clear c78
            try clear c79
            try clear c80
            try clear c81
            try clear c83
            try clear c84
            try clear c87
            try clear c88
            try clear c89
            try clear c91
            try clear c92
            try clear c95
            try clear c98
            try clear c98b0
            try clear c99
            try clear c100
            try clear c101
            try clear c106
            try clear c106b0
            try clear c106b1
            try clear c110
            try clear c111
            try clear c112
            try clear c117
            try clear c118
            try clear c125
            try clear c126
            try clear c127
            try clear c128
            try clear c133
            try clear c134
            try clear c135
            try clear c136
            try clear c137
            try clear c139
            try clear c140
            try clear c141
            try clear c144
            try clear c145
            try clear c146
            try clear c147
            try clear c149
            try clear c150
            try clear c151
            try clear hcz102_0
            try clear hcz102_1
            try clear hcz102_2
            try clear hcz104_0
            try clear hcz104_1
            try clear hcz104_2
            try clear hcz113_0
            try clear hcz113_1
            try clear hcz113_2
            try clear hcz115_0
            try clear hcz115_1
            try clear hcz115_2
            try clear hcz119_0
            try clear hcz119_1
            try clear hcz119_2
            try clear hcz129_0
            try clear hcz129_1
            try clear hcz129_2
            try clear hcz138_0
            try clear hcz138_1
            try clear hcz138_2
            try clear hcz142_0
            try clear hcz142_1
            try clear hcz142_2
            try clear hcz148_0
            try clear hcz148_1
            try clear hcz148_2
            try clear hcz14_0
            try clear hcz14_1
            try clear hcz14_2
            try clear hcz152_0
            try clear hcz152_1
            try clear hcz152_2
            try clear hcz16_0
            try clear hcz16_1
            try clear hcz16_2
            try clear hcz23_0
            try clear hcz23_1
            try clear hcz23_2
            try clear hcz26_0
            try clear hcz26_1
            try clear hcz26_2
            try clear hcz31_0
            try clear hcz31_1
            try clear hcz31_2
            try clear hcz39_0
            try clear hcz39_1
            try clear hcz39_2
            try clear hcz47_0
            try clear hcz47_1
            try clear hcz47_2
            try clear hcz50_0
            try clear hcz50_1
            try clear hcz50_2
            try clear hcz55_0
            try clear hcz55_1
            try clear hcz55_2
            try clear hcz58_0
            try clear hcz58_1
            try clear hcz58_2
            try clear hcz6_0
            try clear hcz6_1
            try clear hcz6_2
            try clear hcz74_0
            try clear hcz74_1
            try clear hcz74_2
            try clear hcz82_0
            try clear hcz82_1
            try clear hcz82_2
            try clear hcz85_0
            try clear hcz85_1
            try clear hcz85_2
            try clear hcz90_0
            try clear hcz90_1
            try clear hcz90_2
            try clear hcz93_0
            try clear hcz93_1
            try clear hcz93_2
            try clear hfz102_0
            try clear hfz102_1
            try clear hfz102_2
            try clear hfz104_0
            try clear hfz104_1
            try clear hfz104_2
            try clear hfz113_0
            try clear hfz113_1
            try clear hfz113_2
            try clear hfz115_0
            try clear hfz115_1
            try clear hfz115_2
            try clear hfz119_0
            try clear hfz119_1
            try clear hfz119_2
            try clear hfz129_0
            try clear hfz129_1
            try clear hfz129_2
            try clear hfz138_0
            try clear hfz138_1
            try clear hfz138_2
            try clear hfz142_0
            try clear hfz142_1
            try clear hfz142_2
            try clear hfz148_0
            try clear hfz148_1
            try clear hfz148_2
            try clear hfz14_0
            try clear hfz14_1
            try clear hfz14_2
            try clear hfz152_0
            try clear hfz152_1
            try clear hfz152_2
            try clear hfz16_0
            try clear hfz16_1
            try clear hfz16_2
            try clear hfz23_0
            try clear hfz23_1
            try clear hfz23_2
            try clear hfz26_0
            try clear hfz26_1
            try clear hfz26_2
            try clear hfz31_0
            try clear hfz31_1
            try clear hfz31_2
            try clear hfz39_0
            try clear hfz39_1
            try clear hfz39_2
            try clear hfz47_0
            try clear hfz47_1
            try clear hfz47_2
            try clear hfz50_0
            try clear hfz50_1
            try clear hfz50_2
            try clear hfz55_0
            try clear hfz55_1
            try clear hfz55_2
            try clear hfz58_0
            try clear hfz58_1
            try clear hfz58_2
            try clear hfz6_0
            try clear hfz6_1
            try clear hfz6_2
            try clear hfz74_0
            try clear hfz74_1
            try clear hfz74_2
            try clear hfz82_0
            try clear hfz82_1
            try clear hfz82_2
            try clear hfz85_0
            try clear hfz85_1
            try clear hfz85_2
            try clear hfz90_0
            try clear hfz90_1
            try clear hfz90_2
            try clear hfz93_0
            try clear hfz93_1
            try clear hfz93_2
            try clear p2
            obtain ⟨kq, x92_108, rfl, HA, HJ108, HO_308001, HO_308002, HO_316001, HO_316002, HO_325001, HO_325002, HO_358001, HO_358002, BK290, BK307, BK315, BK324, BK357, HB⟩ := hcut
            have hl325001_108 := (Kd.R_reads' HO_325001.out).1
            rw [hl325001_108] at HO_325001
            (try simp only [hl325001_108])
            (try simp only [hl325001_108] at BK290)
            (try simp only [hl325001_108] at BK307)
            (try simp only [hl325001_108] at BK315)
            (try simp only [hl325001_108] at BK324)
            (try simp only [hl325001_108] at BK357)
            (try simp only [hl325001_108] at HO_308001)
            (try simp only [hl325001_108] at HO_308002)
            (try simp only [hl325001_108] at HO_316001)
            (try simp only [hl325001_108] at HO_316002)
            (try simp only [hl325001_108] at HO_325002)
            (try simp only [hl325001_108] at HO_358001)
            (try simp only [hl325001_108] at HO_358002)
            have hl325002_108 := (Kd.R_reads' HO_325002.out).1
            rw [hl325002_108] at HO_325002
            (try simp only [hl325002_108])
            (try simp only [hl325002_108] at BK290)
            (try simp only [hl325002_108] at BK307)
            (try simp only [hl325002_108] at BK315)
            (try simp only [hl325002_108] at BK324)
            (try simp only [hl325002_108] at BK357)
            (try simp only [hl325002_108] at HO_308001)
            (try simp only [hl325002_108] at HO_308002)
            (try simp only [hl325002_108] at HO_316001)
            (try simp only [hl325002_108] at HO_316002)
            (try simp only [hl325002_108] at HO_325001)
            (try simp only [hl325002_108] at HO_358001)
            (try simp only [hl325002_108] at HO_358002)
            cases kq with
            | zero => exact absurd HA.out (by simp [laws_FnExactStoreGive.j2])
            | succ kj108 =>
             have H := HA.out
             clear HA
             simp only [laws_FnExactStoreGive.j2] at H
             by_cases c154 : x92_108 = true
             ·subst c154
              have H1 : (some false) = some r := by rw [if_pos rfl] at H; exact H
              clear H
              have H := H1
              clear H1
              obtain rfl := Option.some.inj H
              go_wp2
              go_ret
              exact ⟨by first | rfl | (simp [errW_none, errW_some] <;> rfl) | (simp [*, errW_none, errW_some] <;> rfl), by repeat (first | (with_reducible first | exact HB.out | apply below_alloc | apply pw_below_drewN | apply below_drew1 | refine below_set ?_ GE290.out | refine below_set ?_ GE307.out | refine below_set ?_ GE315.out | refine below_set ?_ GE324.out | refine below_set ?_ GE357.out) | exact HB.out)⟩
             ·replace c154 := Bool.eq_false_iff.mpr c154
              subst c154
              have H1 : ((laws_heldStore.f kj108 t316 t339 t340 1).bind fun t359 => (if t359 < 0 then (some false) else (if t359 = t338 then (some true) else (some false)))) = some r := by rw [if_neg (show ¬ (false = true) by decide)] at H; exact H
              clear H
              have H := H1
              clear H1
              replace H := Option.bind_eq_some_iff.mp H
              obtain ⟨t359, A1550, H⟩ := H
              replace H : (if t359 < 0 then (some false) else (if t359 = t338 then (some true) else (some false))) = some r := H
              have A155 := Aside0.mk A1550
              clear A1550
              by_cases c156 : t359 < 0
              ·rw [if_pos c156] at H
               have c156b0 : decide (t359 < 0) = true := decide_eq_true c156
               have c156b0l := c156b0
               (try simp only [hl316001_64, hl316002_64, hl325001_108, hl325002_108] at c156b0l)
               clear c156
               obtain rfl := Option.some.inj H
               have hnb157 := NB324_290.out
               have hnc157 := NB290_324.out
               have hnb158 := NB324_307.out
               have hnc158 := NB307_324.out
               have hnb159 := NB324_315.out
               have hnc159 := NB315_324.out
               have hnb160 := NB324_357.out
               have hnc160 := NB357_324.out
               have hcz161_0 : wc.cell? ⟨gb324, 0, none⟩ = some (.int .i64 t316) := (blk_cell BK324.out 0).trans rfl
               have hcz161_1 : wc.cell? ⟨gb324, 1, none⟩ = some (.slice Ao40 t339.length co40) := (blk_cell BK324.out 1).trans rfl
               have hcz161_2 : wc.cell? ⟨gb324, 2, none⟩ = some (.slice Ao41 t340.length co41) := (blk_cell BK324.out 2).trans rfl
               have hfz161_0 := blk_frozen BK324.out 0
               have hfz161_1 := blk_frozen BK324.out 1
               have hfz161_2 := blk_frozen BK324.out 2
               go_wp2_with (first | ((with_reducible refine gate_callee (f := 30) rfl ?_); refine goesL_ (some 95) rfl rfl Try.func30 (by kernel_rfl) rfl #[.agg #[.int .i64 t316, .slice Ao40 t339.length co40, .slice Ao41 t340.length co41], .int .i64 1] rfl mt_ ?_; (with_reducible refine (laws_heldStore.calls kj108 t316 _ _ t339 _ _ t340 1 t359 _ ?side1 ?side2 ?side3 ?side4 A155.out).mono ?_); (case side1 => repeat (first | exact (Kd.R_reads' HO_325001.out).2.2 | (with_reducible refine Kd.C_alloc ?_ _) | (with_reducible refine Kd.C_drewN ?_ _) | (with_reducible refine Kd.C_drew ?_))); (case side2 => exact (Kd.R_reads' HO_325001.out).2.1); (case side3 => repeat (first | exact (Kd.R_reads' HO_325002.out).2.2 | (with_reducible refine Kd.C_alloc ?_ _) | (with_reducible refine Kd.C_drewN ?_ _) | (with_reducible refine Kd.C_drew ?_))); (case side4 => exact (Kd.R_reads' HO_325002.out).2.1); rintro e w162 ⟨rfl, hb⟩; refine ⟨_, rfl, ?_⟩; have n0_ := Aside0.mk (Kd.R_below (kr_ HO_308001) hb); have n1_ := Aside0.mk (Kd.R_below (kr_ HO_308002) hb); have n2_ := Aside0.mk (Kd.R_below (kr_ HO_316001) hb); have n3_ := Aside0.mk (Kd.R_below (kr_ HO_316002) hb); have n4_ := Aside0.mk (Kd.R_below (kr_ HO_325001) hb); have n5_ := Aside0.mk (Kd.R_below (kr_ HO_325002) hb); have n6_ := Aside0.mk (Kd.R_below (kr_ HO_358001) hb); have n7_ := Aside0.mk (Kd.R_below (kr_ HO_358002) hb); have n8_ := Aside0.mk (blk_below (g := gb290) (o := .cells #[.int .i64 a0_0, .slice A0_1 l0_1.length c0_1, .slice A0_2 l0_2.length c0_2] 46 (0, 0)) (bk_ BK290) hb); have n9_ := Aside0.mk (blk_below (g := gb307) (o := .cells #[.int .i64 t299, .slice Ao24 t300.length co24, .slice Ao25 t303.length co25] 36 (0, 0)) (bk_ BK307) hb); have n10_ := Aside0.mk (blk_below (g := gb315) (o := .cells #[.int .i64 t308, .slice Ao32 t335.length co32, .slice Ao33 t336.length co33] 36 (0, 0)) (bk_ BK315) hb); have n11_ := Aside0.mk (blk_below (g := gb324) (o := .cells #[.int .i64 t316, .slice Ao40 t339.length co40, .slice Ao41 t340.length co41] 36 (0, 0)) (bk_ BK324) hb); have n12_ := Aside0.mk (blk_below (g := gb357) (o := .cells #[.int .i64 t349, .slice Ao130 t350.length co130, .slice Ao131 t353.length co131] 36 (0, 0)) (bk_ BK357) hb); have n13_ := Aside0.mk (below_step (by repeat (first | (with_reducible first | exact HB.out | apply below_alloc | apply pw_below_drewN | apply below_drew1 | refine below_set ?_ GE290.out | refine below_set ?_ GE307.out | refine below_set ?_ GE315.out | refine below_set ?_ GE324.out | refine below_set ?_ GE357.out) | exact HB.out)) hb); clear HO_308001; clear HO_308002; clear HO_316001; clear HO_316002; clear HO_325001; clear HO_325002; clear HO_358001; clear HO_358002; clear BK290; clear BK307; clear BK315; clear BK324; clear BK357; clear HB; have HO_308001 := n0_; have HO_308002 := n1_; have HO_316001 := n2_; have HO_316002 := n3_; have HO_325001 := n4_; have HO_325002 := n5_; have HO_358001 := n6_; have HO_358002 := n7_; have BK290 := n8_; have BK307 := n9_; have BK315 := n10_; have BK324 := n11_; have BK357 := n12_; have HB := n13_; clear n0_ n1_ n2_ n3_ n4_ n5_ n6_ n7_ n8_ n9_ n10_ n11_ n12_ n13_; (try clear hb); (try clear hb2); (try clear hk); (try clear hi)))
               go_ret
               exact ⟨by first | rfl | (simp [errW_none, errW_some] <;> rfl) | (simp [*, errW_none, errW_some] <;> rfl), by repeat (first | (with_reducible first | exact HB.out | apply below_alloc | apply pw_below_drewN | apply below_drew1 | refine below_set ?_ GE290.out | refine below_set ?_ GE307.out | refine below_set ?_ GE315.out | refine below_set ?_ GE324.out | refine below_set ?_ GE357.out) | exact HB.out)⟩
              ·rw [if_neg c156] at H
               have c156b0 : decide (t359 < 0) = false := decide_eq_false c156
               have c156b0l := c156b0
               (try simp only [hl316001_64, hl316002_64, hl325001_108, hl325002_108] at c156b0l)
               clear c156
               by_cases c163 : t359 = t338
               ·rw [if_pos c163] at H
                have c163b0 : (t359 == t338) = true := beq_iff_eq.mpr c163
                have c163b0l := c163b0
                (try simp only [hl316001_64, hl316002_64, hl325001_108, hl325002_108] at c163b0l)
                have c163b1 : (t359 != t338) = false := bne_eq_false_iff_eq.mpr c163
                have c163b1l := c163b1
                (try simp only [hl316001_64, hl316002_64, hl325001_108, hl325002_108] at c163b1l)
                clear c163
                obtain rfl := Option.some.inj H
                have hnb164 := NB324_290.out
                have hnc164 := NB290_324.out
                have hnb165 := NB324_307.out
                have hnc165 := NB307_324.out
                have hnb166 := NB324_315.out
                have hnc166 := NB315_324.out
                have hnb167 := NB324_357.out
                have hnc167 := NB357_324.out
                have hcz168_0 : wc.cell? ⟨gb324, 0, none⟩ = some (.int .i64 t316) := (blk_cell BK324.out 0).trans rfl
                have hcz168_1 : wc.cell? ⟨gb324, 1, none⟩ = some (.slice Ao40 t339.length co40) := (blk_cell BK324.out 1).trans rfl
                have hcz168_2 : wc.cell? ⟨gb324, 2, none⟩ = some (.slice Ao41 t340.length co41) := (blk_cell BK324.out 2).trans rfl
                have hfz168_0 := blk_frozen BK324.out 0
                have hfz168_1 := blk_frozen BK324.out 1
                have hfz168_2 := blk_frozen BK324.out 2
                go_wp2_with (first | ((with_reducible refine gate_callee (f := 30) rfl ?_); refine goesL_ (some 95) rfl rfl Try.func30 (by kernel_rfl) rfl #[.agg #[.int .i64 t316, .slice Ao40 t339.length co40, .slice Ao41 t340.length co41], .int .i64 1] rfl mt_ ?_; (with_reducible refine (laws_heldStore.calls kj108 t316 _ _ t339 _ _ t340 1 t359 _ ?side1 ?side2 ?side3 ?side4 A155.out).mono ?_); (case side1 => repeat (first | exact (Kd.R_reads' HO_325001.out).2.2 | (with_reducible refine Kd.C_alloc ?_ _) | (with_reducible refine Kd.C_drewN ?_ _) | (with_reducible refine Kd.C_drew ?_))); (case side2 => exact (Kd.R_reads' HO_325001.out).2.1); (case side3 => repeat (first | exact (Kd.R_reads' HO_325002.out).2.2 | (with_reducible refine Kd.C_alloc ?_ _) | (with_reducible refine Kd.C_drewN ?_ _) | (with_reducible refine Kd.C_drew ?_))); (case side4 => exact (Kd.R_reads' HO_325002.out).2.1); rintro e w169 ⟨rfl, hb⟩; refine ⟨_, rfl, ?_⟩; have n0_ := Aside0.mk (Kd.R_below (kr_ HO_308001) hb); have n1_ := Aside0.mk (Kd.R_below (kr_ HO_308002) hb); have n2_ := Aside0.mk (Kd.R_below (kr_ HO_316001) hb); have n3_ := Aside0.mk (Kd.R_below (kr_ HO_316002) hb); have n4_ := Aside0.mk (Kd.R_below (kr_ HO_325001) hb); have n5_ := Aside0.mk (Kd.R_below (kr_ HO_325002) hb); have n6_ := Aside0.mk (Kd.R_below (kr_ HO_358001) hb); have n7_ := Aside0.mk (Kd.R_below (kr_ HO_358002) hb); have n8_ := Aside0.mk (blk_below (g := gb290) (o := .cells #[.int .i64 a0_0, .slice A0_1 l0_1.length c0_1, .slice A0_2 l0_2.length c0_2] 46 (0, 0)) (bk_ BK290) hb); have n9_ := Aside0.mk (blk_below (g := gb307) (o := .cells #[.int .i64 t299, .slice Ao24 t300.length co24, .slice Ao25 t303.length co25] 36 (0, 0)) (bk_ BK307) hb); have n10_ := Aside0.mk (blk_below (g := gb315) (o := .cells #[.int .i64 t308, .slice Ao32 t335.length co32, .slice Ao33 t336.length co33] 36 (0, 0)) (bk_ BK315) hb); have n11_ := Aside0.mk (blk_below (g := gb324) (o := .cells #[.int .i64 t316, .slice Ao40 t339.length co40, .slice Ao41 t340.length co41] 36 (0, 0)) (bk_ BK324) hb); have n12_ := Aside0.mk (blk_below (g := gb357) (o := .cells #[.int .i64 t349, .slice Ao130 t350.length co130, .slice Ao131 t353.length co131] 36 (0, 0)) (bk_ BK357) hb); have n13_ := Aside0.mk (below_step (by repeat (first | (with_reducible first | exact HB.out | apply below_alloc | apply pw_below_drewN | apply below_drew1 | refine below_set ?_ GE290.out | refine below_set ?_ GE307.out | refine below_set ?_ GE315.out | refine below_set ?_ GE324.out | refine below_set ?_ GE357.out) | exact HB.out)) hb); clear HO_308001; clear HO_308002; clear HO_316001; clear HO_316002; clear HO_325001; clear HO_325002; clear HO_358001; clear HO_358002; clear BK290; clear BK307; clear BK315; clear BK324; clear BK357; clear HB; have HO_308001 := n0_; have HO_308002 := n1_; have HO_316001 := n2_; have HO_316002 := n3_; have HO_325001 := n4_; have HO_325002 := n5_; have HO_358001 := n6_; have HO_358002 := n7_; have BK290 := n8_; have BK307 := n9_; have BK315 := n10_; have BK324 := n11_; have BK357 := n12_; have HB := n13_; clear n0_ n1_ n2_ n3_ n4_ n5_ n6_ n7_ n8_ n9_ n10_ n11_ n12_ n13_; (try clear hb); (try clear hb2); (try clear hk); (try clear hi)))
                go_ret
                exact ⟨by first | rfl | (simp [errW_none, errW_some] <;> rfl) | (simp [*, errW_none, errW_some] <;> rfl), by repeat (first | (with_reducible first | exact HB.out | apply below_alloc | apply pw_below_drewN | apply below_drew1 | refine below_set ?_ GE290.out | refine below_set ?_ GE307.out | refine below_set ?_ GE315.out | refine below_set ?_ GE324.out | refine below_set ?_ GE357.out) | exact HB.out)⟩
               ·rw [if_neg c163] at H
                have c163b0 : (t359 == t338) = false := beq_eq_false_iff_ne.mpr c163
                have c163b0l := c163b0
                (try simp only [hl316001_64, hl316002_64, hl325001_108, hl325002_108] at c163b0l)
                have c163b1 : (t359 != t338) = true := bne_iff_ne.mpr c163
                have c163b1l := c163b1
                (try simp only [hl316001_64, hl316002_64, hl325001_108, hl325002_108] at c163b1l)
                obtain rfl := Option.some.inj H
                have hnb170 := NB324_290.out
                have hnc170 := NB290_324.out
                have hnb171 := NB324_307.out
                have hnc171 := NB307_324.out
                have hnb172 := NB324_315.out
                have hnc172 := NB315_324.out
                have hnb173 := NB324_357.out
                have hnc173 := NB357_324.out
                have hcz174_0 : wc.cell? ⟨gb324, 0, none⟩ = some (.int .i64 t316) := (blk_cell BK324.out 0).trans rfl
                have hcz174_1 : wc.cell? ⟨gb324, 1, none⟩ = some (.slice Ao40 t339.length co40) := (blk_cell BK324.out 1).trans rfl
                have hcz174_2 : wc.cell? ⟨gb324, 2, none⟩ = some (.slice Ao41 t340.length co41) := (blk_cell BK324.out 2).trans rfl
                have hfz174_0 := blk_frozen BK324.out 0
                have hfz174_1 := blk_frozen BK324.out 1
                have hfz174_2 := blk_frozen BK324.out 2
                go_wp2_with (first | ((with_reducible refine gate_callee (f := 30) rfl ?_); refine goesL_ (some 95) rfl rfl Try.func30 (by kernel_rfl) rfl #[.agg #[.int .i64 t316, .slice Ao40 t339.length co40, .slice Ao41 t340.length co41], .int .i64 1] rfl mt_ ?_; (with_reducible refine (laws_heldStore.calls kj108 t316 _ _ t339 _ _ t340 1 t359 _ ?side1 ?side2 ?side3 ?side4 A155.out).mono ?_); (case side1 => repeat (first | exact (Kd.R_reads' HO_325001.out).2.2 | (with_reducible refine Kd.C_alloc ?_ _) | (with_reducible refine Kd.C_drewN ?_ _) | (with_reducible refine Kd.C_drew ?_))); (case side2 => exact (Kd.R_reads' HO_325001.out).2.1); (case side3 => repeat (first | exact (Kd.R_reads' HO_325002.out).2.2 | (with_reducible refine Kd.C_alloc ?_ _) | (with_reducible refine Kd.C_drewN ?_ _) | (with_reducible refine Kd.C_drew ?_))); (case side4 => exact (Kd.R_reads' HO_325002.out).2.1); rintro e w175 ⟨rfl, hb⟩; refine ⟨_, rfl, ?_⟩; have n0_ := Aside0.mk (Kd.R_below (kr_ HO_308001) hb); have n1_ := Aside0.mk (Kd.R_below (kr_ HO_308002) hb); have n2_ := Aside0.mk (Kd.R_below (kr_ HO_316001) hb); have n3_ := Aside0.mk (Kd.R_below (kr_ HO_316002) hb); have n4_ := Aside0.mk (Kd.R_below (kr_ HO_325001) hb); have n5_ := Aside0.mk (Kd.R_below (kr_ HO_325002) hb); have n6_ := Aside0.mk (Kd.R_below (kr_ HO_358001) hb); have n7_ := Aside0.mk (Kd.R_below (kr_ HO_358002) hb); have n8_ := Aside0.mk (blk_below (g := gb290) (o := .cells #[.int .i64 a0_0, .slice A0_1 l0_1.length c0_1, .slice A0_2 l0_2.length c0_2] 46 (0, 0)) (bk_ BK290) hb); have n9_ := Aside0.mk (blk_below (g := gb307) (o := .cells #[.int .i64 t299, .slice Ao24 t300.length co24, .slice Ao25 t303.length co25] 36 (0, 0)) (bk_ BK307) hb); have n10_ := Aside0.mk (blk_below (g := gb315) (o := .cells #[.int .i64 t308, .slice Ao32 t335.length co32, .slice Ao33 t336.length co33] 36 (0, 0)) (bk_ BK315) hb); have n11_ := Aside0.mk (blk_below (g := gb324) (o := .cells #[.int .i64 t316, .slice Ao40 t339.length co40, .slice Ao41 t340.length co41] 36 (0, 0)) (bk_ BK324) hb); have n12_ := Aside0.mk (blk_below (g := gb357) (o := .cells #[.int .i64 t349, .slice Ao130 t350.length co130, .slice Ao131 t353.length co131] 36 (0, 0)) (bk_ BK357) hb); have n13_ := Aside0.mk (below_step (by repeat (first | (with_reducible first | exact HB.out | apply below_alloc | apply pw_below_drewN | apply below_drew1 | refine below_set ?_ GE290.out | refine below_set ?_ GE307.out | refine below_set ?_ GE315.out | refine below_set ?_ GE324.out | refine below_set ?_ GE357.out) | exact HB.out)) hb); clear HO_308001; clear HO_308002; clear HO_316001; clear HO_316002; clear HO_325001; clear HO_325002; clear HO_358001; clear HO_358002; clear BK290; clear BK307; clear BK315; clear BK324; clear BK357; clear HB; have HO_308001 := n0_; have HO_308002 := n1_; have HO_316001 := n2_; have HO_316002 := n3_; have HO_325001 := n4_; have HO_325002 := n5_; have HO_358001 := n6_; have HO_358002 := n7_; have BK290 := n8_; have BK307 := n9_; have BK315 := n10_; have BK324 := n11_; have BK357 := n12_; have HB := n13_; clear n0_ n1_ n2_ n3_ n4_ n5_ n6_ n7_ n8_ n9_ n10_ n11_ n12_ n13_; (try clear hb); (try clear hb2); (try clear hk); (try clear hi)))
                go_ret
                exact ⟨by first | rfl | (simp [errW_none, errW_some] <;> rfl) | (simp [*, errW_none, errW_some] <;> rfl), by repeat (first | (with_reducible first | exact HB.out | apply below_alloc | apply pw_below_drewN | apply below_drew1 | refine below_set ?_ GE290.out | refine below_set ?_ GE307.out | refine below_set ?_ GE315.out | refine below_set ?_ GE324.out | refine below_set ?_ GE357.out) | exact HB.out)⟩
          ·rw [if_neg c106] at H
           have c106b0 : (t341 == t338) = false := beq_eq_false_iff_ne.mpr c106
           have c106b0l := c106b0
           (try simp only [hl316001_64, hl316002_64] at c106b0l)
           have c106b1 : (t341 != t338) = true := bne_iff_ne.mpr c106
           have c106b1l := c106b1
           (try simp only [hl316001_64, hl316002_64] at c106b1l)
           obtain rfl := Option.some.inj H
           have hnb176 := NB324_290.out
           have hnc176 := NB290_324.out
           have hnb177 := NB324_307.out
           have hnc177 := NB307_324.out
           have hnb178 := NB324_315.out
           have hnc178 := NB315_324.out
           have hcz179_0 : wc.cell? ⟨gb324, 0, none⟩ = some (.int .i64 t316) := (blk_cell BK324.out 0).trans rfl
           have hcz179_1 : wc.cell? ⟨gb324, 1, none⟩ = some (.slice Ao40 t317.length co40) := (blk_cell BK324.out 1).trans rfl
           have hcz179_2 : wc.cell? ⟨gb324, 2, none⟩ = some (.slice Ao41 t320.length co41) := (blk_cell BK324.out 2).trans rfl
           have hfz179_0 := blk_frozen BK324.out 0
           have hfz179_1 := blk_frozen BK324.out 1
           have hfz179_2 := blk_frozen BK324.out 2
           go_wp2_with (first | ((with_reducible refine gate_callee (f := 29) rfl ?_); refine goesL_ (some 68) rfl rfl Try.func29 (by kernel_rfl) rfl #[.agg #[.int .i64 t316, .slice Ao40 t317.length co40, .slice Ao41 t320.length co41], .int .i64 1] rfl mt_ ?_; (with_reducible refine (laws_markStore.calls kj64 t316 (fun k_ => some k_ = (.slice Ao40 t317.length co40 : Value).ownBlock) (.slice Ao40 t317.length co40) t317 (fun k_ => some k_ = (.slice Ao41 t320.length co41 : Value).ownBlock) (.slice Ao41 t320.length co41) t320 1 t338 t339 t340 w _ ?side1 ?side2 ?side3 A96.out).mono ?_); (case side1 => repeat (first | (with_reducible first | exact HB.out | apply below_alloc | apply pw_below_drewN | apply below_drew1 | refine below_set ?_ GE290.out | refine below_set ?_ GE307.out | refine below_set ?_ GE315.out | refine below_set ?_ GE324.out) | exact HB.out)); (case side2 => exact Kd.R_tight rfl HO_325001.out); (case side3 => exact Kd.R_tight rfl HO_325002.out); rintro e w180 ⟨rfl, hy0, hy1, hb, hkp⟩; refine ⟨_, rfl, ?_⟩; have n0_ := Aside0.mk (Kd.R_mono (ok' := fun k_ => some k_ ≠ (.slice Ao32 t335.length co32 : Value).ownBlock ∧ some k_ ≠ (.slice Ao40 t317.length co40 : Value).ownBlock) (Kd.R_keptB ((Kd.R_apart' HO_308001.out (Kd.R_typed HO_325002.out) (by decide))) hkp (fun k_ hk_ hs_ => Or.elim hs_ (fun e_ => (hk_.1.2) e_) (fun e_ => (hk_.2) e_))) (fun k_ hk_ => by first | exact ⟨hk_.1.1.1, hk_.1.1.2⟩ | grind)); have n1_ := Aside0.mk (Kd.R_mono (ok' := fun k_ => some k_ ≠ (.slice Ao33 t336.length co33 : Value).ownBlock ∧ some k_ ≠ (.slice Ao41 t320.length co41 : Value).ownBlock) (Kd.R_keptB ((Kd.R_apart' HO_308002.out (Kd.R_typed HO_325001.out) (by decide))) hkp (fun k_ hk_ hs_ => Or.elim hs_ (fun e_ => (hk_.2) e_) (fun e_ => (hk_.1.2) e_))) (fun k_ hk_ => by first | exact ⟨hk_.1.1.1, hk_.1.1.2⟩ | grind)); have n2_ := Aside0.mk (Kd.R_mono (ok' := fun k_ => some k_ ≠ (.slice Ao24 t300.length co24 : Value).ownBlock ∧ some k_ ≠ (.slice Ao40 t317.length co40 : Value).ownBlock) (Kd.R_keptB ((Kd.R_apart' HO_316001.out (Kd.R_typed HO_325002.out) (by decide))) hkp (fun k_ hk_ hs_ => Or.elim hs_ (fun e_ => (hk_.1.2) e_) (fun e_ => (hk_.2) e_))) (fun k_ hk_ => by first | exact ⟨hk_.1.1.1, hk_.1.1.2⟩ | grind)); have n3_ := Aside0.mk (Kd.R_mono (ok' := fun k_ => some k_ ≠ (.slice Ao25 t303.length co25 : Value).ownBlock ∧ some k_ ≠ (.slice Ao41 t320.length co41 : Value).ownBlock) (Kd.R_keptB ((Kd.R_apart' HO_316002.out (Kd.R_typed HO_325001.out) (by decide))) hkp (fun k_ hk_ hs_ => Or.elim hs_ (fun e_ => (hk_.2) e_) (fun e_ => (hk_.1.2) e_))) (fun k_ hk_ => by first | exact ⟨hk_.1.1.1, hk_.1.1.2⟩ | grind)); have n4_ := Aside0.mk (Kd.R_reok rfl hy0 (fun k_ e_ => HO_325001.out.1 k_ e_)); have n5_ := Aside0.mk (Kd.R_reok rfl hy1 (fun k_ e_ => HO_325002.out.1 k_ e_)); have n6_ := Aside0.mk (blk_kept (bk_ BK290) hkp (fun hs_ => Or.elim hs_ (fun e_ => (fun e_ => (Kd.R_ne HO_325001.out BK290.out (by decide)) e_) e_) (fun e_ => (fun e_ => (Kd.R_ne HO_325002.out BK290.out (by decide)) e_) e_))); have n7_ := Aside0.mk (blk_kept (bk_ BK307) hkp (fun hs_ => Or.elim hs_ (fun e_ => (fun e_ => (Kd.R_ne HO_325001.out BK307.out (by decide)) e_) e_) (fun e_ => (fun e_ => (Kd.R_ne HO_325002.out BK307.out (by decide)) e_) e_))); have n8_ := Aside0.mk (blk_kept (bk_ BK315) hkp (fun hs_ => Or.elim hs_ (fun e_ => (fun e_ => (Kd.R_ne HO_325001.out BK315.out (by decide)) e_) e_) (fun e_ => (fun e_ => (Kd.R_ne HO_325002.out BK315.out (by decide)) e_) e_))); have n9_ := Aside0.mk (blk_kept (bk_ BK324) hkp (fun hs_ => Or.elim hs_ (fun e_ => (fun e_ => (Kd.R_ne HO_325001.out BK324.out (by decide)) e_) e_) (fun e_ => (fun e_ => (Kd.R_ne HO_325002.out BK324.out (by decide)) e_) e_))); have n10_ := Aside0.mk (hb); clear HO_308001; clear HO_308002; clear HO_316001; clear HO_316002; clear HO_325001; clear HO_325002; clear BK290; clear BK307; clear BK315; clear BK324; clear HB; have HO_308001 := n0_; have HO_308002 := n1_; have HO_316001 := n2_; have HO_316002 := n3_; have HO_325001 := n4_; have HO_325002 := n5_; have BK290 := n6_; have BK307 := n7_; have BK315 := n8_; have BK324 := n9_; have HB := n10_; clear n0_ n1_ n2_ n3_ n4_ n5_ n6_ n7_ n8_ n9_ n10_; (try clear hb); (try clear hkp); (try clear hy0); (try clear hy1); have hcz181_0 : w180.cell? ⟨gb324, 0, none⟩ = some (.int .i64 t316) := (blk_cell BK324.out 0).trans rfl; have hcz181_1 : w180.cell? ⟨gb324, 1, none⟩ = some (.slice Ao40 t317.length co40) := (blk_cell BK324.out 1).trans rfl; have hcz181_2 : w180.cell? ⟨gb324, 2, none⟩ = some (.slice Ao41 t320.length co41) := (blk_cell BK324.out 2).trans rfl; have hfz181_0 := blk_frozen BK324.out 0; have hfz181_1 := blk_frozen BK324.out 1; have hfz181_2 := blk_frozen BK324.out 2) | ((with_reducible refine gate_callee (f := 30) rfl ?_); refine goesL_ (some 71) rfl rfl Try.func30 (by kernel_rfl) rfl #[.agg #[.int .i64 t316, .slice Ao40 t339.length co40, .slice Ao41 t340.length co41], .int .i64 1] rfl (by (try simp only [List.map_toArray, List.map_cons, List.map_nil]); first | done | (rw [show t339.length = t317.length from (Kd.R_reads' HO_325001.out).1.symm, show t340.length = t320.length from (Kd.R_reads' HO_325002.out).1.symm] <;> rfl) | rfl | (simp only [List.length_drop, List.length_take]; rfl)) ?_; (with_reducible refine (laws_heldStore.calls kj64 t316 _ _ t339 _ _ t340 1 t341 _ ?side1 ?side2 ?side3 ?side4 A97.out).mono ?_); (case side1 => repeat (first | exact (Kd.R_reads' HO_325001.out).2.2 | (with_reducible refine Kd.C_alloc ?_ _) | (with_reducible refine Kd.C_drewN ?_ _) | (with_reducible refine Kd.C_drew ?_))); (case side2 => rw [show t339.length = t317.length from (Kd.R_reads' HO_325001.out).1.symm]; exact (Kd.R_reads' HO_325001.out).2.1); (case side3 => repeat (first | exact (Kd.R_reads' HO_325002.out).2.2 | (with_reducible refine Kd.C_alloc ?_ _) | (with_reducible refine Kd.C_drewN ?_ _) | (with_reducible refine Kd.C_drew ?_))); (case side4 => rw [show t340.length = t320.length from (Kd.R_reads' HO_325002.out).1.symm]; exact (Kd.R_reads' HO_325002.out).2.1); rintro e w182 ⟨rfl, hb⟩; refine ⟨_, rfl, ?_⟩; have n0_ := Aside0.mk (Kd.R_below (kr_ HO_308001) hb); have n1_ := Aside0.mk (Kd.R_below (kr_ HO_308002) hb); have n2_ := Aside0.mk (Kd.R_below (kr_ HO_316001) hb); have n3_ := Aside0.mk (Kd.R_below (kr_ HO_316002) hb); have n4_ := Aside0.mk (Kd.R_below (kr_ HO_325001) hb); have n5_ := Aside0.mk (Kd.R_below (kr_ HO_325002) hb); have n6_ := Aside0.mk (blk_below (g := gb290) (o := .cells #[.int .i64 a0_0, .slice A0_1 l0_1.length c0_1, .slice A0_2 l0_2.length c0_2] 46 (0, 0)) (bk_ BK290) hb); have n7_ := Aside0.mk (blk_below (g := gb307) (o := .cells #[.int .i64 t299, .slice Ao24 t300.length co24, .slice Ao25 t303.length co25] 36 (0, 0)) (bk_ BK307) hb); have n8_ := Aside0.mk (blk_below (g := gb315) (o := .cells #[.int .i64 t308, .slice Ao32 t335.length co32, .slice Ao33 t336.length co33] 36 (0, 0)) (bk_ BK315) hb); have n9_ := Aside0.mk (blk_below (g := gb324) (o := .cells #[.int .i64 t316, .slice Ao40 t317.length co40, .slice Ao41 t320.length co41] 36 (0, 0)) (bk_ BK324) hb); have n10_ := Aside0.mk (below_step (by repeat (first | (with_reducible first | exact HB.out | apply below_alloc | apply pw_below_drewN | apply below_drew1 | refine below_set ?_ GE290.out | refine below_set ?_ GE307.out | refine below_set ?_ GE315.out | refine below_set ?_ GE324.out) | exact HB.out)) hb); clear HO_308001; clear HO_308002; clear HO_316001; clear HO_316002; clear HO_325001; clear HO_325002; clear BK290; clear BK307; clear BK315; clear BK324; clear HB; have HO_308001 := n0_; have HO_308002 := n1_; have HO_316001 := n2_; have HO_316002 := n3_; have HO_325001 := n4_; have HO_325002 := n5_; have BK290 := n6_; have BK307 := n7_; have BK315 := n8_; have BK324 := n9_; have HB := n10_; clear n0_ n1_ n2_ n3_ n4_ n5_ n6_ n7_ n8_ n9_ n10_; (try clear hb); (try clear hb2); (try clear hk); (try clear hi)))
           go_ret
           exact ⟨by first | rfl | (simp [errW_none, errW_some] <;> rfl) | (simp [*, errW_none, errW_some] <;> rfl), by repeat (first | (with_reducible first | exact HB.out | apply below_alloc | apply pw_below_drewN | apply below_drew1 | refine below_set ?_ GE290.out | refine below_set ?_ GE307.out | refine below_set ?_ GE315.out | refine below_set ?_ GE324.out) | exact HB.out)⟩
     ·replace c63 := Bool.eq_false_iff.mpr c63
      subst c63
      have H1 : (some false) = some r := by rw [if_neg (show ¬ (false = true) by decide)] at H; exact H
      clear H
      have H := H1
      clear H1
      obtain rfl := Option.some.inj H
      try go_wp2
      have n0_ := Aside0.mk (Kd.R_drew HO_308001.out)
      have n1_ := Aside0.mk (Kd.R_drew HO_308002.out)
      have n2_ := Aside0.mk (Kd.R_drew HO_316001.out)
      have n3_ := Aside0.mk (Kd.R_drew HO_316002.out)
      have n4_ := Aside0.mk (Kd.R_drew HO_325001.out)
      have n5_ := Aside0.mk (Kd.R_drew HO_325002.out)
      have n6_ := Aside0.mk (blk_drew BK290.out)
      have n7_ := Aside0.mk (blk_drew BK307.out)
      have n8_ := Aside0.mk (blk_drew BK315.out)
      have n9_ := Aside0.mk (blk_drew BK324.out)
      have n10_ := Aside0.mk (below_drew1 HB.out)
      clear HO_308001
      clear HO_308002
      clear HO_316001
      clear HO_316002
      clear HO_325001
      clear HO_325002
      clear BK290
      clear BK307
      clear BK315
      clear BK324
      clear HB
      have HO_308001 := n0_
      have HO_308002 := n1_
      have HO_316001 := n2_
      have HO_316002 := n3_
      have HO_325001 := n4_
      have HO_325002 := n5_
      have BK290 := n6_
      have BK307 := n7_
      have BK315 := n8_
      have BK324 := n9_
      have HB := n10_
      clear n0_ n1_ n2_ n3_ n4_ n5_ n6_ n7_ n8_ n9_ n10_
      refine start_ (n := 5) (S := fun w' => w'.cell? ⟨gb315, 0, none⟩ = some (.int .i64 t308) ∧ w'.cell? ⟨gb315, 1, none⟩ = some (.slice Ao32 t309.length co32) ∧ w'.cell? ⟨gb315, 2, none⟩ = some (.slice Ao33 t312.length co33) ∧ w'.cell? ⟨gb290, 0, none⟩ = some (.int .i64 a0_0) ∧ w'.cell? ⟨gb290, 1, none⟩ = some (.slice A0_1 l0_1.length c0_1) ∧ w'.cell? ⟨gb290, 2, none⟩ = some (.slice A0_2 l0_2.length c0_2)) (ds := []) (bs 5 0) (by kernel_rfl) rfl rfl ⟨(blk_cell BK315.out 0).trans rfl, (blk_cell BK315.out 1).trans rfl, (blk_cell BK315.out 2).trans rfl, (blk_cell BK290.out 0).trans rfl, (blk_cell BK290.out 1).trans rfl, (blk_cell BK290.out 2).trans rfl⟩ (fun hHeld => ?_)
      generalize wc.drew = w183 at HO_308001 HO_308002 HO_316001 HO_316002 HO_325001 HO_325002 BK290 BK307 BK315 BK324 HB hHeld ⊢
      refine take_ (i := 0) (N := some 45) (v := ?_) (a' := ?_) (bs 5 1) rfl rfl (by kernel_rfl) (fun _ _ _ h => h) (Or.inl ⟨by rfl, ?_⟩) hHeld ?_ ?_
      rotate_left
      ·rintro w' ⟨s0, s1, s2, s3, s4, s5⟩
       go_simp
       with_reducible rfl
      rotate_left
      ·simp only [Act.put, List.setIfInBounds_toArray, List.set_cons_zero, List.set_cons_succ, i64_w, i32_w]
       rfl
      refine take_ (i := 1) (N := some 46) (v := ?_) (a' := ?_) (bs 5 2) rfl rfl (by kernel_rfl) (fun _ _ _ h => h) (Or.inl ⟨by rfl, ?_⟩) hHeld ?_ ?_
      rotate_left
      ·rintro w' ⟨s0, s1, s2, s3, s4, s5⟩
       go_simp
       with_reducible rfl
      rotate_left
      ·simp only [Act.put, List.setIfInBounds_toArray, List.set_cons_zero, List.set_cons_succ, i64_w, i32_w]
       rfl
      refine one_ (i := 2) (N := some 47) (bs 5 3) rfl rfl (by kernel_rfl) (by decide) (fun K hK => ?_)
      refine goes_ Try.func40 (by kernel_rfl) rfl #[.agg #[.int .i64 a0_0, .slice A0_1 l0_1.length c0_1, .slice A0_2 l0_2.length c0_2]] (by rfl) rfl rfl mt_ ?_
      with_reducible refine (laws_toStore.calls kj11 a0_0 _ _ l0_1 _ _ l0_2 t326 t327 t330 _ ?side1 ?side2 ?side3 ?side4 A61.out).mono ?_
      (case side1 => repeat (first | exact (Kd.C_below HR0_1.out HB.out) | (with_reducible refine Kd.C_alloc ?_ _) | (with_reducible refine Kd.C_drewN ?_ _) | (with_reducible refine Kd.C_drew ?_)))
      (case side2 => exact HC0_1.out)
      (case side3 => repeat (first | exact (Kd.C_below HR0_2.out HB.out) | (with_reducible refine Kd.C_alloc ?_ _) | (with_reducible refine Kd.C_drewN ?_ _) | (with_reducible refine Kd.C_drew ?_)))
      (case side4 => exact HC0_2.out)
      rintro e w184 ⟨v328, v331, rfl, ho0, ho1, hb⟩
      refine ⟨_, rfl, ?_⟩
      have n0_ := Aside0.mk (Kd.R_elder' (kr_ HO_308001) (Kd.R_base ho0) hb)
      have n1_ := Aside0.mk (Kd.R_elder' (kr_ HO_308002) (Kd.R_base ho1) hb)
      have n2_ := Aside0.mk (Kd.R_elder' (kr_ HO_316001) (Kd.R_base ho0) hb)
      have n3_ := Aside0.mk (Kd.R_elder' (kr_ HO_316002) (Kd.R_base ho1) hb)
      have n4_ := Aside0.mk (Kd.R_elder' (kr_ HO_325001) (Kd.R_base ho0) hb)
      have n5_ := Aside0.mk (Kd.R_elder' (kr_ HO_325002) (Kd.R_base ho1) hb)
      have n6_ := Aside0.mk (Kd.R_lower (Kd.R_new' (Kd.R_new' (Kd.R_new' ho0 (Kd.R_lt (kr_ HO_308001))) (Kd.R_lt (kr_ HO_316001))) (Kd.R_lt (kr_ HO_325001))) (below_size (by repeat (first | (with_reducible first | exact HB.out | apply below_alloc | apply pw_below_drewN | apply below_drew1 | refine below_set ?_ GE290.out | refine below_set ?_ GE307.out | refine below_set ?_ GE315.out | refine below_set ?_ GE324.out) | exact HB.out))))
      have n7_ := Aside0.mk (Kd.R_lower (Kd.R_new' (Kd.R_new' (Kd.R_new' ho1 (Kd.R_lt (kr_ HO_308002))) (Kd.R_lt (kr_ HO_316002))) (Kd.R_lt (kr_ HO_325002))) (below_size (by repeat (first | (with_reducible first | exact HB.out | apply below_alloc | apply pw_below_drewN | apply below_drew1 | refine below_set ?_ GE290.out | refine below_set ?_ GE307.out | refine below_set ?_ GE315.out | refine below_set ?_ GE324.out) | exact HB.out))))
      have n8_ := Aside0.mk (blk_below (g := gb290) (o := .cells #[.int .i64 a0_0, .slice A0_1 l0_1.length c0_1, .slice A0_2 l0_2.length c0_2] 46 (0, 0)) (bk_ BK290) hb)
      have n9_ := Aside0.mk (blk_below (g := gb307) (o := .cells #[.int .i64 t299, .slice Ao24 t300.length co24, .slice Ao25 t303.length co25] 36 (0, 0)) (bk_ BK307) hb)
      have n10_ := Aside0.mk (blk_below (g := gb315) (o := .cells #[.int .i64 t308, .slice Ao32 t309.length co32, .slice Ao33 t312.length co33] 36 (0, 0)) (bk_ BK315) hb)
      have n11_ := Aside0.mk (blk_below (g := gb324) (o := .cells #[.int .i64 t316, .slice Ao40 t317.length co40, .slice Ao41 t320.length co41] 36 (0, 0)) (bk_ BK324) hb)
      have n12_ := Aside0.mk (below_step (by repeat (first | (with_reducible first | exact HB.out | apply below_alloc | apply pw_below_drewN | apply below_drew1 | refine below_set ?_ GE290.out | refine below_set ?_ GE307.out | refine below_set ?_ GE315.out | refine below_set ?_ GE324.out) | exact HB.out)) hb)
      clear HO_308001
      clear HO_308002
      clear HO_316001
      clear HO_316002
      clear HO_325001
      clear HO_325002
      clear BK290
      clear BK307
      clear BK315
      clear BK324
      clear HB
      have HO_308001 := n0_
      have HO_308002 := n1_
      have HO_316001 := n2_
      have HO_316002 := n3_
      have HO_325001 := n4_
      have HO_325002 := n5_
      have HO329 := n6_
      have HO332 := n7_
      have BK290 := n8_
      have BK307 := n9_
      have BK315 := n10_
      have BK324 := n11_
      have HB := n12_
      clear n0_ n1_ n2_ n3_ n4_ n5_ n6_ n7_ n8_ n9_ n10_ n11_ n12_
      (try clear hb)
      (try clear hb2)
      (try clear hk)
      (try clear hi)
      (try clear ho0)
      (try clear ho1)
      obtain ⟨Ao185, co185, eo185⟩ := Kd.R_slice HO329.out
      (first | subst eo185 | (injection eo185 with f1_ f2_ f3_; have f4_ := f1_.symm; have f5_ := f3_.symm; clear f1_ f2_ f3_; subst f4_; subst f5_))
      obtain ⟨Ao186, co186, eo186⟩ := Kd.R_slice HO332.out
      (first | subst eo186 | (injection eo186 with f1_ f2_ f3_; have f4_ := f1_.symm; have f5_ := f3_.symm; clear f1_ f2_ f3_; subst f4_; subst f5_))
      refine hK.out _ _ ⟨(blk_cell BK315.out 0).trans rfl, (blk_cell BK315.out 1).trans rfl, (blk_cell BK315.out 2).trans rfl, (blk_cell BK290.out 0).trans rfl, (blk_cell BK290.out 1).trans rfl, (blk_cell BK290.out 2).trans rfl⟩ (fun hHeld => ?_)
      clear hK K
      refine norm_ (a' := ?_) ?_ ?_
      rotate_left
      ·show Act.put _ (some 47) _ = _
       simp only [Act.put, List.setIfInBounds_toArray, List.set_cons_zero, List.set_cons_succ, i64_w, i32_w]
       rfl
      refine one_ (i := 3) (N := some 48) (bs 5 4) rfl rfl (by kernel_rfl) (by decide) (fun K hK => ?_)
      refine goes_ Try.func28 (by kernel_rfl) rfl #[.agg #[.int .i64 t308, .slice Ao32 t309.length co32, .slice Ao33 t312.length co33], .agg #[.int .i64 t326, .slice Ao185 t327.length co185, .slice Ao186 t330.length co186]] (by rfl) rfl rfl mt_ ?_
      with_reducible refine (laws_eqStore.calls kj11 t308 _ _ t309 _ _ t312 t326 _ _ t327 _ _ t330 false _ ?side1 ?side2 ?side3 ?side4 ?side5 ?side6 ?side7 ?side8 A62.out).mono ?_
      (case side1 => repeat (first | exact (Kd.R_reads' HO_316001.out).2.2 | (with_reducible refine Kd.C_alloc ?_ _) | (with_reducible refine Kd.C_drewN ?_ _) | (with_reducible refine Kd.C_drew ?_)))
      (case side2 => exact (Kd.R_reads' HO_316001.out).2.1)
      (case side3 => repeat (first | exact (Kd.R_reads' HO_316002.out).2.2 | (with_reducible refine Kd.C_alloc ?_ _) | (with_reducible refine Kd.C_drewN ?_ _) | (with_reducible refine Kd.C_drew ?_)))
      (case side4 => exact (Kd.R_reads' HO_316002.out).2.1)
      (case side5 => repeat (first | exact (Kd.R_reads' HO329.out).2.2 | (with_reducible refine Kd.C_alloc ?_ _) | (with_reducible refine Kd.C_drewN ?_ _) | (with_reducible refine Kd.C_drew ?_)))
      (case side6 => exact (Kd.R_reads' HO329.out).2.1)
      (case side7 => repeat (first | exact (Kd.R_reads' HO332.out).2.2 | (with_reducible refine Kd.C_alloc ?_ _) | (with_reducible refine Kd.C_drewN ?_ _) | (with_reducible refine Kd.C_drew ?_)))
      (case side8 => exact (Kd.R_reads' HO332.out).2.1)
      rintro e w187 ⟨rfl, hb⟩
      refine ⟨_, rfl, ?_⟩
      have n0_ := Aside0.mk (Kd.R_below (kr_ HO_308001) hb)
      have n1_ := Aside0.mk (Kd.R_below (kr_ HO_308002) hb)
      have n2_ := Aside0.mk (Kd.R_below (kr_ HO_316001) hb)
      have n3_ := Aside0.mk (Kd.R_below (kr_ HO_316002) hb)
      have n4_ := Aside0.mk (Kd.R_below (kr_ HO_325001) hb)
      have n5_ := Aside0.mk (Kd.R_below (kr_ HO_325002) hb)
      have n6_ := Aside0.mk (Kd.R_below (kr_ HO329) hb)
      have n7_ := Aside0.mk (Kd.R_below (kr_ HO332) hb)
      have n8_ := Aside0.mk (blk_below (g := gb290) (o := .cells #[.int .i64 a0_0, .slice A0_1 l0_1.length c0_1, .slice A0_2 l0_2.length c0_2] 46 (0, 0)) (bk_ BK290) hb)
      have n9_ := Aside0.mk (blk_below (g := gb307) (o := .cells #[.int .i64 t299, .slice Ao24 t300.length co24, .slice Ao25 t303.length co25] 36 (0, 0)) (bk_ BK307) hb)
      have n10_ := Aside0.mk (blk_below (g := gb315) (o := .cells #[.int .i64 t308, .slice Ao32 t309.length co32, .slice Ao33 t312.length co33] 36 (0, 0)) (bk_ BK315) hb)
      have n11_ := Aside0.mk (blk_below (g := gb324) (o := .cells #[.int .i64 t316, .slice Ao40 t317.length co40, .slice Ao41 t320.length co41] 36 (0, 0)) (bk_ BK324) hb)
      have n12_ := Aside0.mk (below_step (by repeat (first | (with_reducible first | exact HB.out | apply below_alloc | apply pw_below_drewN | apply below_drew1 | refine below_set ?_ GE290.out | refine below_set ?_ GE307.out | refine below_set ?_ GE315.out | refine below_set ?_ GE324.out) | exact HB.out)) hb)
      clear HO_308001
      clear HO_308002
      clear HO_316001
      clear HO_316002
      clear HO_325001
      clear HO_325002
      clear HO329
      clear HO332
      clear BK290
      clear BK307
      clear BK315
      clear BK324
      clear HB
      have HO_308001 := n0_
      have HO_308002 := n1_
      have HO_316001 := n2_
      have HO_316002 := n3_
      have HO_325001 := n4_
      have HO_325002 := n5_
      have HO329 := n6_
      have HO332 := n7_
      have BK290 := n8_
      have BK307 := n9_
      have BK315 := n10_
      have BK324 := n11_
      have HB := n12_
      clear n0_ n1_ n2_ n3_ n4_ n5_ n6_ n7_ n8_ n9_ n10_ n11_ n12_
      (try clear hb)
      (try clear hb2)
      (try clear hk)
      (try clear hi)
      refine hK.out _ _ ⟨(blk_cell BK315.out 0).trans rfl, (blk_cell BK315.out 1).trans rfl, (blk_cell BK315.out 2).trans rfl, (blk_cell BK290.out 0).trans rfl, (blk_cell BK290.out 1).trans rfl, (blk_cell BK290.out 2).trans rfl⟩ (fun hHeld => ?_)
      clear hK K
      refine norm_ (a' := ?_) ?_ ?_
      rotate_left
      ·show Act.put _ (some 48) _ = _
       simp only [Act.put, List.setIfInBounds_toArray, List.set_cons_zero, List.set_cons_succ, i64_w, i32_w]
       rfl
      refine pure_s (i := 4) (N := some 49) (bs 5 5) (by kernel_rfl) (h := ?_)
      refine done_ (by kernel_rfl) ?_
      try go_wp2
      go_ret
      exact ⟨by first | rfl | (simp [errW_none, errW_some] <;> rfl) | (simp [*, errW_none, errW_some] <;> rfl), by repeat (first | (with_reducible first | exact HB.out | apply below_alloc | apply pw_below_drewN | apply below_drew1 | refine below_set ?_ GE290.out | refine below_set ?_ GE307.out | refine below_set ?_ GE315.out | refine below_set ?_ GE324.out) | exact HB.out)⟩

/-! What is told of arguments that came in -/
def W29 (x : S29) : Prop := ((Lit.int .i64 x.f0).wf = true) ∧ ((x.f1.length ≤ maxLen ∧ ∀ y_ ∈ x.f1, (Lit.int .i64 y_).wf = true))
def W46 (x : S46) : Prop := (W29 x.f0) ∧ ((x.f1.length ≤ maxLen ∧ ∀ y_ ∈ x.f1, (Lit.int .u8 y_).wf = true))
/-- THE ONE PURE STATEMENT of laws_FnExactStoreGive: yours. -/
def laws_FnExactStoreGive.Pure : Prop := ∀ (a0_0 : Int) (l0_1 : List Int) (l0_2 : List Int) (a1 : Int), W46 (⟨(⟨a0_0, l0_1⟩ : S29), l0_2⟩ : S46) → (Lit.int .i64 a1).wf = true → ∃ k, laws_FnExactStoreGive.f k a0_0 l0_1 l0_2 a1 = some true
theorem laws_FnExactStoreGive.walk (P : laws_FnExactStoreGive.Pure) (w : World) (x0 : S46) (A0_1 : Option Addr) (c0_1 : Nat) (hc0_1 : x0.f0.f1.length ≤ c0_1) (hr0_1 : Kd.C (Kd.int .i64) w A0_1 x0.f0.f1.length x0.f0.f1) (A0_2 : Option Addr) (c0_2 : Nat) (hc0_2 : x0.f1.length ≤ c0_2) (hr0_2 : Kd.C (Kd.int .u8) w A0_2 x0.f1.length x0.f1) (hw0 : W46 x0) (a1 : Int) (hw1 : (Lit.int .i64 a1).wf = true) :
  Calls Try.prog 15 #[.agg #[.int .i64 x0.f0.f0, .slice A0_1 x0.f0.f1.length c0_1, .slice A0_2 x0.f1.length c0_2], .int .i64 a1] w fun e w' => e = .returned (.bool true) ∧ Below w.heap.size w w' := by
 obtain ⟨k, h⟩ := P (x0.f0.f0) (x0.f0.f1) (x0.f1) a1 hw0 hw1
 refine (laws_FnExactStoreGive.calls k (x0.f0.f0) A0_1 c0_1 x0.f0.f1 A0_2 c0_2 x0.f1 a1 true w hr0_1 hc0_1 hr0_2 hc0_2 h).mono ?_
 rintro e w' ⟨rfl, hd⟩
 exact ⟨rfl, hd⟩

end Go.Proofs.Ytaglpjlapfocfaa.PFnExactStoreGive
