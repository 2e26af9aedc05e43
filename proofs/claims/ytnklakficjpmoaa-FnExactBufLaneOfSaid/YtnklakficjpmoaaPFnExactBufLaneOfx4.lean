-- printed by a program of this session (wip/printx) out of the translation; Lean checks it
import Derived.Test.YtnklakficjpmoaaPFnExactBufLaneOfx0
import Derived.Test.YtnklakficjpmoaaPFnExactBufLaneOfx2
import Derived.Test.YtnklakficjpmoaaPFnExactBufLaneOfx3
namespace Go.Proofs.Ytnklakficjpmoaa.PFnExactBufLaneOf
open Go.RowKit Go.Proofs.YtnklakficjpmoaaW.PrintWords Go.Proofs.YtnklakficjpmoaaW.PrintLast Go.Proofs.YtnklakficjpmoaaW.PrintMore
attribute [local go_sem] max2_int min2_int max_two min_two max_three min_three max_four min_four   -- for this text's walks alone
set_option linter.unusedVariables false
set_option linter.unusedSimpArgs false

/-! ### spec_BufOk: function 47 -/
mutual
def spec_BufOk.j0 : Nat → Bool → Int → Int → Int → Int → Bool → List (S80) → Option (Bool)
  | 0, _, _, _, _, _, _, _ => none
  | k + 1, x17, x176000, x176001, x176002, x176003, x176004, x176005 => if x17 = true then (some false) else (spec_BufOk.l0 k 0 x176000 x176001 x176002 x176003 x176004 x176005)
def spec_BufOk.l0 : Nat → Int → Int → Int → Int → Int → Bool → List (S80) → Option (Bool)
  | 0, _, _, _, _, _, _, _ => none
  | k + 1, x3, x176000, x176001, x176002, x176003, x176004, x176005 => if x3 < (x176005.length : Int) then (if 0 ≤ x3 then (if ((rd_T80 x176005 x3).f0) < 0 then (spec_BufOk.j2 k x3 true x176000 x176001 x176002 x176003 x176004 x176005 ((rd_T80 x176005 x3).f0) ((rd_T80 x176005 x3).f1)) else (if ((rd_T80 x176005 x3).f0) > 9999 then (spec_BufOk.j2 k x3 true x176000 x176001 x176002 x176003 x176004 x176005 ((rd_T80 x176005 x3).f0) ((rd_T80 x176005 x3).f1)) else (if x3 > 0 then (if 0 ≤ (wrap64 (x3 - 1)) then (if (wrap64 (x3 - 1)) < (x176005.length : Int) then (spec_BufOk.j2 k x3 (decide (((rd_T80 x176005 (wrap64 (x3 - 1))).f0) ≥ ((rd_T80 x176005 x3).f0))) x176000 x176001 x176002 x176003 x176004 x176005 ((rd_T80 x176005 x3).f0) ((rd_T80 x176005 x3).f1)) else (none)) else (none)) else (spec_BufOk.j2 k x3 false x176000 x176001 x176002 x176003 x176004 x176005 ((rd_T80 x176005 x3).f0) ((rd_T80 x176005 x3).f1))))) else (none)) else ((spec_l17All.f k x176000 x176001 x176002 x176003 x176004 x176005).bind fun t183 => (spec_BufOk.l2 k t183 0 x176000 x176001 x176002 x176003 x176004 x176005))
def spec_BufOk.j2 : Nat → Int → Bool → Int → Int → Int → Int → Bool → List (S80) → Int → List (S52) → Option (Bool)
  | 0, _, _, _, _, _, _, _, _, _, _ => none
  | k + 1, x3, x53, x176000, x176001, x176002, x176003, x176004, x176005, x179000, x179001 => if x53 = true then (some false) else (if (x179001.length : Int) < 1 then (spec_BufOk.j3 k x3 true x176000 x176001 x176002 x176003 x176004 x176005 x179000 x179001) else (spec_BufOk.j3 k x3 (decide ((x179001.length : Int) > x176000)) x176000 x176001 x176002 x176003 x176004 x176005 x179000 x179001))
def spec_BufOk.j3 : Nat → Int → Bool → Int → Int → Int → Int → Bool → List (S80) → Int → List (S52) → Option (Bool)
  | 0, _, _, _, _, _, _, _, _, _, _ => none
  | k + 1, x3, x66, x176000, x176001, x176002, x176003, x176004, x176005, x179000, x179001 => if x66 = true then (some false) else (spec_BufOk.l1 k x3 0 x176000 x176001 x176002 x176003 x176004 x176005 x179000 x179001)
def spec_BufOk.l1 : Nat → Int → Int → Int → Int → Int → Int → Bool → List (S80) → Int → List (S52) → Option (Bool)
  | 0, _, _, _, _, _, _, _, _, _, _ => none
  | k + 1, x3, x5, x176000, x176001, x176002, x176003, x176004, x176005, x179000, x179001 => if x5 < (x179001.length : Int) then (if 0 ≤ x5 then ((spec_l17HeldOk.f ((rd_T52 x179001 x5).f0) ((rd_T52 x179001 x5).f1)).bind fun t181 => (if t181 = true then (spec_BufOk.l1 k x3 (wrap64 (x5 + 1)) x176000 x176001 x176002 x176003 x176004 x176005 x179000 x179001) else (some false))) else (none)) else ((spec_l17Bytes.f k x179001).bind fun t182 => (if t182 > x176001 then (some false) else (spec_BufOk.l0 k (wrap64 (x3 + 1)) x176000 x176001 x176002 x176003 x176004 x176005)))
def spec_BufOk.l2 : Nat → List (S52) → Int → Int → Int → Int → Int → Bool → List (S80) → Option (Bool)
  | 0, _, _, _, _, _, _, _, _ => none
  | k + 1, x6, x7, x176000, x176001, x176002, x176003, x176004, x176005 => if x7 < (x6.length : Int) then (if 0 ≤ x7 then (if x7 ≤ (x6.length : Int) then ((spec_l17Id.f k (x6.take (x7 : Int).toNat) ((rd_T52 x6 x7).f0)).bind fun t191 => (if t191 = true then (some false) else (spec_BufOk.l2 k x6 (wrap64 (x7 + 1)) x176000 x176001 x176002 x176003 x176004 x176005))) else (none)) else (none)) else ((spec_l17Bytes.f k x6).bind fun t192 => (some (decide (t192 ≤ x176002))))
end
def spec_BufOk.f (k : Nat) (a0_0 : Int) (a0_1 : Int) (a0_2 : Int) (a0_3 : Int) (a0_4 : Bool) (l0_5 : List (S80)) : Option (Bool) := (spec_LimitsOk.f a0_0 a0_1 a0_2 a0_3 a0_4).bind fun t176 => (if t176 = true then (spec_BufOk.j0 k (decide ((l0_5.length : Int) > 48)) a0_0 a0_1 a0_2 a0_3 a0_4 l0_5) else (spec_BufOk.j0 k true a0_0 a0_1 a0_2 a0_3 a0_4 l0_5))
theorem spec_BufOk.mono_l : ∀ k, (∀ y0 y1 y2 y3 y4 y5 y6, LeO (spec_BufOk.j0 k y0 y1 y2 y3 y4 y5 y6) (spec_BufOk.j0 (k + 1) y0 y1 y2 y3 y4 y5 y6)) ∧ (∀ y0 y1 y2 y3 y4 y5 y6, LeO (spec_BufOk.l0 k y0 y1 y2 y3 y4 y5 y6) (spec_BufOk.l0 (k + 1) y0 y1 y2 y3 y4 y5 y6)) ∧ (∀ y0 y1 y2 y3 y4 y5 y6 y7 y8 y9, LeO (spec_BufOk.j2 k y0 y1 y2 y3 y4 y5 y6 y7 y8 y9) (spec_BufOk.j2 (k + 1) y0 y1 y2 y3 y4 y5 y6 y7 y8 y9)) ∧ (∀ y0 y1 y2 y3 y4 y5 y6 y7 y8 y9, LeO (spec_BufOk.j3 k y0 y1 y2 y3 y4 y5 y6 y7 y8 y9) (spec_BufOk.j3 (k + 1) y0 y1 y2 y3 y4 y5 y6 y7 y8 y9)) ∧ (∀ y0 y1 y2 y3 y4 y5 y6 y7 y8 y9, LeO (spec_BufOk.l1 k y0 y1 y2 y3 y4 y5 y6 y7 y8 y9) (spec_BufOk.l1 (k + 1) y0 y1 y2 y3 y4 y5 y6 y7 y8 y9)) ∧ (∀ y0 y1 y2 y3 y4 y5 y6 y7, LeO (spec_BufOk.l2 k y0 y1 y2 y3 y4 y5 y6 y7) (spec_BufOk.l2 (k + 1) y0 y1 y2 y3 y4 y5 y6 y7))
 | 0 => ⟨fun _ _ _ _ _ _ _ r h => by simp [spec_BufOk.j0] at h, fun _ _ _ _ _ _ _ r h => by simp [spec_BufOk.l0] at h, fun _ _ _ _ _ _ _ _ _ _ r h => by simp [spec_BufOk.j2] at h, fun _ _ _ _ _ _ _ _ _ _ r h => by simp [spec_BufOk.j3] at h, fun _ _ _ _ _ _ _ _ _ _ r h => by simp [spec_BufOk.l1] at h, fun _ _ _ _ _ _ _ _ r h => by simp [spec_BufOk.l2] at h⟩
 | k + 1 => by
  obtain ⟨ih0, ih1, ih2, ih3, ih4, ih5⟩ := spec_BufOk.mono_l k
  refine ⟨?_, ?_, ?_, ?_, ?_, ?_⟩
  ·intro y0 y1 y2 y3 y4 y5 y6
   unfold spec_BufOk.j0
   repeat' first
   | (with_reducible exact ih0 _ _ _ _ _ _ _)
   | (with_reducible exact ih1 _ _ _ _ _ _ _)
   | (with_reducible exact ih2 _ _ _ _ _ _ _ _ _ _)
   | (with_reducible exact ih3 _ _ _ _ _ _ _ _ _ _)
   | (with_reducible exact ih4 _ _ _ _ _ _ _ _ _ _)
   | (with_reducible exact ih5 _ _ _ _ _ _ _ _)
   | (with_reducible exact spec_l17All.mono _ _ _ _ _ _ _)
   | (with_reducible exact spec_l17Bytes.mono _ _)
   | (with_reducible exact spec_l17Id.mono _ _ _)
   | (with_reducible exact LeO.refl _)
   | (with_reducible exact LeO.none _)
   | (with_reducible refine LeO.ite ?_ ?_)
   | (with_reducible refine LeO.bind ?_ (fun _ => ?_))
   | exact ih0 _ _ _ _ _ _ _
   | exact ih1 _ _ _ _ _ _ _
   | exact ih2 _ _ _ _ _ _ _ _ _ _
   | exact ih3 _ _ _ _ _ _ _ _ _ _
   | exact ih4 _ _ _ _ _ _ _ _ _ _
   | exact ih5 _ _ _ _ _ _ _ _
   | exact spec_l17All.mono _ _ _ _ _ _ _
   | exact spec_l17Bytes.mono _ _
   | exact spec_l17Id.mono _ _ _
   | exact LeO.none _
   | refine LeO.ite ?_ ?_
   | refine LeO.bind ?_ (fun _ => ?_)
  ·intro y0 y1 y2 y3 y4 y5 y6
   unfold spec_BufOk.l0
   repeat' first
   | (with_reducible exact ih0 _ _ _ _ _ _ _)
   | (with_reducible exact ih1 _ _ _ _ _ _ _)
   | (with_reducible exact ih2 _ _ _ _ _ _ _ _ _ _)
   | (with_reducible exact ih3 _ _ _ _ _ _ _ _ _ _)
   | (with_reducible exact ih4 _ _ _ _ _ _ _ _ _ _)
   | (with_reducible exact ih5 _ _ _ _ _ _ _ _)
   | (with_reducible exact spec_l17All.mono _ _ _ _ _ _ _)
   | (with_reducible exact spec_l17Bytes.mono _ _)
   | (with_reducible exact spec_l17Id.mono _ _ _)
   | (with_reducible exact LeO.refl _)
   | (with_reducible exact LeO.none _)
   | (with_reducible refine LeO.ite ?_ ?_)
   | (with_reducible refine LeO.bind ?_ (fun _ => ?_))
   | exact ih0 _ _ _ _ _ _ _
   | exact ih1 _ _ _ _ _ _ _
   | exact ih2 _ _ _ _ _ _ _ _ _ _
   | exact ih3 _ _ _ _ _ _ _ _ _ _
   | exact ih4 _ _ _ _ _ _ _ _ _ _
   | exact ih5 _ _ _ _ _ _ _ _
   | exact spec_l17All.mono _ _ _ _ _ _ _
   | exact spec_l17Bytes.mono _ _
   | exact spec_l17Id.mono _ _ _
   | exact LeO.none _
   | refine LeO.ite ?_ ?_
   | refine LeO.bind ?_ (fun _ => ?_)
  ·intro y0 y1 y2 y3 y4 y5 y6 y7 y8 y9
   unfold spec_BufOk.j2
   repeat' first
   | (with_reducible exact ih0 _ _ _ _ _ _ _)
   | (with_reducible exact ih1 _ _ _ _ _ _ _)
   | (with_reducible exact ih2 _ _ _ _ _ _ _ _ _ _)
   | (with_reducible exact ih3 _ _ _ _ _ _ _ _ _ _)
   | (with_reducible exact ih4 _ _ _ _ _ _ _ _ _ _)
   | (with_reducible exact ih5 _ _ _ _ _ _ _ _)
   | (with_reducible exact spec_l17All.mono _ _ _ _ _ _ _)
   | (with_reducible exact spec_l17Bytes.mono _ _)
   | (with_reducible exact spec_l17Id.mono _ _ _)
   | (with_reducible exact LeO.refl _)
   | (with_reducible exact LeO.none _)
   | (with_reducible refine LeO.ite ?_ ?_)
   | (with_reducible refine LeO.bind ?_ (fun _ => ?_))
   | exact ih0 _ _ _ _ _ _ _
   | exact ih1 _ _ _ _ _ _ _
   | exact ih2 _ _ _ _ _ _ _ _ _ _
   | exact ih3 _ _ _ _ _ _ _ _ _ _
   | exact ih4 _ _ _ _ _ _ _ _ _ _
   | exact ih5 _ _ _ _ _ _ _ _
   | exact spec_l17All.mono _ _ _ _ _ _ _
   | exact spec_l17Bytes.mono _ _
   | exact spec_l17Id.mono _ _ _
   | exact LeO.none _
   | refine LeO.ite ?_ ?_
   | refine LeO.bind ?_ (fun _ => ?_)
  ·intro y0 y1 y2 y3 y4 y5 y6 y7 y8 y9
   unfold spec_BufOk.j3
   repeat' first
   | (with_reducible exact ih0 _ _ _ _ _ _ _)
   | (with_reducible exact ih1 _ _ _ _ _ _ _)
   | (with_reducible exact ih2 _ _ _ _ _ _ _ _ _ _)
   | (with_reducible exact ih3 _ _ _ _ _ _ _ _ _ _)
   | (with_reducible exact ih4 _ _ _ _ _ _ _ _ _ _)
   | (with_reducible exact ih5 _ _ _ _ _ _ _ _)
   | (with_reducible exact spec_l17All.mono _ _ _ _ _ _ _)
   | (with_reducible exact spec_l17Bytes.mono _ _)
   | (with_reducible exact spec_l17Id.mono _ _ _)
   | (with_reducible exact LeO.refl _)
   | (with_reducible exact LeO.none _)
   | (with_reducible refine LeO.ite ?_ ?_)
   | (with_reducible refine LeO.bind ?_ (fun _ => ?_))
   | exact ih0 _ _ _ _ _ _ _
   | exact ih1 _ _ _ _ _ _ _
   | exact ih2 _ _ _ _ _ _ _ _ _ _
   | exact ih3 _ _ _ _ _ _ _ _ _ _
   | exact ih4 _ _ _ _ _ _ _ _ _ _
   | exact ih5 _ _ _ _ _ _ _ _
   | exact spec_l17All.mono _ _ _ _ _ _ _
   | exact spec_l17Bytes.mono _ _
   | exact spec_l17Id.mono _ _ _
   | exact LeO.none _
   | refine LeO.ite ?_ ?_
   | refine LeO.bind ?_ (fun _ => ?_)
  ·intro y0 y1 y2 y3 y4 y5 y6 y7 y8 y9
   unfold spec_BufOk.l1
   repeat' first
   | (with_reducible exact ih0 _ _ _ _ _ _ _)
   | (with_reducible exact ih1 _ _ _ _ _ _ _)
   | (with_reducible exact ih2 _ _ _ _ _ _ _ _ _ _)
   | (with_reducible exact ih3 _ _ _ _ _ _ _ _ _ _)
   | (with_reducible exact ih4 _ _ _ _ _ _ _ _ _ _)
   | (with_reducible exact ih5 _ _ _ _ _ _ _ _)
   | (with_reducible exact spec_l17All.mono _ _ _ _ _ _ _)
   | (with_reducible exact spec_l17Bytes.mono _ _)
   | (with_reducible exact spec_l17Id.mono _ _ _)
   | (with_reducible exact LeO.refl _)
   | (with_reducible exact LeO.none _)
   | (with_reducible refine LeO.ite ?_ ?_)
   | (with_reducible refine LeO.bind ?_ (fun _ => ?_))
   | exact ih0 _ _ _ _ _ _ _
   | exact ih1 _ _ _ _ _ _ _
   | exact ih2 _ _ _ _ _ _ _ _ _ _
   | exact ih3 _ _ _ _ _ _ _ _ _ _
   | exact ih4 _ _ _ _ _ _ _ _ _ _
   | exact ih5 _ _ _ _ _ _ _ _
   | exact spec_l17All.mono _ _ _ _ _ _ _
   | exact spec_l17Bytes.mono _ _
   | exact spec_l17Id.mono _ _ _
   | exact LeO.none _
   | refine LeO.ite ?_ ?_
   | refine LeO.bind ?_ (fun _ => ?_)
  ·intro y0 y1 y2 y3 y4 y5 y6 y7
   unfold spec_BufOk.l2
   repeat' first
   | (with_reducible exact ih0 _ _ _ _ _ _ _)
   | (with_reducible exact ih1 _ _ _ _ _ _ _)
   | (with_reducible exact ih2 _ _ _ _ _ _ _ _ _ _)
   | (with_reducible exact ih3 _ _ _ _ _ _ _ _ _ _)
   | (with_reducible exact ih4 _ _ _ _ _ _ _ _ _ _)
   | (with_reducible exact ih5 _ _ _ _ _ _ _ _)
   | (with_reducible exact spec_l17All.mono _ _ _ _ _ _ _)
   | (with_reducible exact spec_l17Bytes.mono _ _)
   | (with_reducible exact spec_l17Id.mono _ _ _)
   | (with_reducible exact LeO.refl _)
   | (with_reducible exact LeO.none _)
   | (with_reducible refine LeO.ite ?_ ?_)
   | (with_reducible refine LeO.bind ?_ (fun _ => ?_))
   | exact ih0 _ _ _ _ _ _ _
   | exact ih1 _ _ _ _ _ _ _
   | exact ih2 _ _ _ _ _ _ _ _ _ _
   | exact ih3 _ _ _ _ _ _ _ _ _ _
   | exact ih4 _ _ _ _ _ _ _ _ _ _
   | exact ih5 _ _ _ _ _ _ _ _
   | exact spec_l17All.mono _ _ _ _ _ _ _
   | exact spec_l17Bytes.mono _ _
   | exact spec_l17Id.mono _ _ _
   | exact LeO.none _
   | refine LeO.ite ?_ ?_
   | refine LeO.bind ?_ (fun _ => ?_)
theorem spec_BufOk.mono : ∀ a0 a1 a2 a3 a4 a5 k, LeO (spec_BufOk.f k a0 a1 a2 a3 a4 a5) (spec_BufOk.f (k + 1) a0 a1 a2 a3 a4 a5) := by
 intro a0 a1 a2 a3 a4 a5 k
 obtain ⟨ih0, ih1, ih2, ih3, ih4, ih5⟩ := spec_BufOk.mono_l k
 unfold spec_BufOk.f
 repeat' first
   | (with_reducible exact ih0 _ _ _ _ _ _ _)
   | (with_reducible exact ih1 _ _ _ _ _ _ _)
   | (with_reducible exact ih2 _ _ _ _ _ _ _ _ _ _)
   | (with_reducible exact ih3 _ _ _ _ _ _ _ _ _ _)
   | (with_reducible exact ih4 _ _ _ _ _ _ _ _ _ _)
   | (with_reducible exact ih5 _ _ _ _ _ _ _ _)
   | (with_reducible exact spec_l17All.mono _ _ _ _ _ _ _)
   | (with_reducible exact spec_l17Bytes.mono _ _)
   | (with_reducible exact spec_l17Id.mono _ _ _)
   | (with_reducible exact LeO.refl _)
   | (with_reducible exact LeO.none _)
   | (with_reducible refine LeO.ite ?_ ?_)
   | (with_reducible refine LeO.bind ?_ (fun _ => ?_))
   | exact ih0 _ _ _ _ _ _ _
   | exact ih1 _ _ _ _ _ _ _
   | exact ih2 _ _ _ _ _ _ _ _ _ _
   | exact ih3 _ _ _ _ _ _ _ _ _ _
   | exact ih4 _ _ _ _ _ _ _ _ _ _
   | exact ih5 _ _ _ _ _ _ _ _
   | exact spec_l17All.mono _ _ _ _ _ _ _
   | exact spec_l17Bytes.mono _ _
   | exact spec_l17Id.mono _ _ _
   | exact LeO.none _
   | refine LeO.ite ?_ ?_
   | refine LeO.bind ?_ (fun _ => ?_)
set_option maxHeartbeats 8000000 in
set_option maxRecDepth 100000 in
theorem spec_BufOk.calls (k : Nat) (a0_0 : Int) (a0_1 : Int) (a0_2 : Int) (a0_3 : Int) (a0_4 : Bool) (A0_5 : Option Addr) (c0_5 : Nat) (l0_5 : List (S80)) (r : Bool) (w : World) (hr0_5 : Kd.C k80 w A0_5 l0_5.length l0_5) (hc0_5 : l0_5.length ≤ c0_5) (h : spec_BufOk.f k a0_0 a0_1 a0_2 a0_3 a0_4 l0_5 = some r) :
  Calls Try.prog 47 #[.agg #[.int .i64 a0_0, .int .i64 a0_1, .int .i64 a0_2, .int .i64 a0_3, .bool a0_4, .slice A0_5 l0_5.length c0_5]] w fun e w' => e = .returned (.bool r) ∧ Below w.heap.size w w' := by
 have hu47 := Try.underlying47; have hu44 := Try.underlying44; have hu80 := Try.underlying80; have hu52 := Try.underlying52
 have HR0_5 := Aside0.mk hr0_5
 have HC0_5 := Aside0.mk hc0_5
 clear hr0_5 hc0_5; have HB := Aside0.mk (Below.refl w.heap.size w)
 have H : ((spec_LimitsOk.f a0_0 a0_1 a0_2 a0_3 a0_4).bind fun t176 => (if t176 = true then (spec_BufOk.j0 k (decide ((l0_5.length : Int) > 48)) a0_0 a0_1 a0_2 a0_3 a0_4 l0_5) else (spec_BufOk.j0 k true a0_0 a0_1 a0_2 a0_3 a0_4 l0_5))) = some r := h
 clear h
 have HC2 := Aside0.mk H
 clear H
 go_enter Try.func47, Try.ntmps47
 go_upto_region 1 with (first | ((with_reducible refine gate_dst (N := 1) rfl ?_); (try (refine gate_guard (by rfl) ?_; dsimp only)); refine box_event ?hg (N := 1) ?hd (cs := #[.int .i64 a0_0, .int .i64 a0_1, .int .i64 a0_2, .int .i64 a0_3, .bool a0_4, .slice A0_5 l0_5.length c0_5]) (t := 47) ?hr ?_; (case hd => rfl); (case hg => rfl); (case hr => first | (go_simp; done) | (go_simp; rfl)); intro gb175 hg w3 hbox hb; have n0_ := Aside0.mk (below_step (be_ HB) hb); have n1_ := Aside0.mk (hbox); have n2_ := gw_ HB hg; have n3_ := gw_ HB hg; clear HB; have HB := n0_; have BK175 := n1_; have GW175 := n2_; have GE175 := n3_; clear n0_ n1_ n2_ n3_; clear hb hbox hg))
 repeat (go_quiet (first | ((with_reducible refine gate_dst (N := 1) rfl ?_); (try (refine gate_guard (by rfl) ?_; dsimp only)); refine box_event ?hg (N := 1) ?hd (cs := #[.int .i64 a0_0, .int .i64 a0_1, .int .i64 a0_2, .int .i64 a0_3, .bool a0_4, .slice A0_5 l0_5.length c0_5]) (t := 47) ?hr ?_; (case hd => rfl); (case hg => rfl); (case hr => first | (go_simp; done) | (go_simp; rfl)); intro gb175 hg w3 hbox hb; have n0_ := Aside0.mk (below_step (be_ HB) hb); have n1_ := Aside0.mk (hbox); have n2_ := gw_ HB hg; have n3_ := gw_ HB hg; clear HB; have HB := n0_; have BK175 := n1_; have GW175 := n2_; have GE175 := n3_; clear n0_ n1_ n2_ n3_; clear hb hbox hg)); go_upto_region 1 with (first | ((with_reducible refine gate_dst (N := 1) rfl ?_); (try (refine gate_guard (by rfl) ?_; dsimp only)); refine box_event ?hg (N := 1) ?hd (cs := #[.int .i64 a0_0, .int .i64 a0_1, .int .i64 a0_2, .int .i64 a0_3, .bool a0_4, .slice A0_5 l0_5.length c0_5]) (t := 47) ?hr ?_; (case hd => rfl); (case hg => rfl); (case hr => first | (go_simp; done) | (go_simp; rfl)); intro gb175 hg w3 hbox hb; have n0_ := Aside0.mk (below_step (be_ HB) hb); have n1_ := Aside0.mk (hbox); have n2_ := gw_ HB hg; have n3_ := gw_ HB hg; clear HB; have HB := n0_; have BK175 := n1_; have GW175 := n2_; have GE175 := n3_; clear n0_ n1_ n2_ n3_; clear hb hbox hg)))
 (try simp only [Act.put, List.setIfInBounds_toArray, List.set_cons_zero, List.set_cons_succ])
 go_cut [17] (fun v17 wc => ∃ (kq : Nat) (x17_1 : Bool), v17 = .bool x17_1 ∧ Aside0 (spec_BufOk.j0 kq x17_1 a0_0 a0_1 a0_2 a0_3 a0_4 l0_5 = some r) ∧ Aside0 (kq ≤ k) ∧ Aside0 (wc.heap[gb175]? = some (.cells #[.int .i64 a0_0, .int .i64 a0_1, .int .i64 a0_2, .int .i64 a0_3, .bool a0_4, (.slice A0_5 l0_5.length c0_5)] 47 (0, 0))) ∧ Aside0 (Below w.heap.size w wc))
 case first =>
  have H := HC2.out
  clear HC2
  replace H := Option.bind_eq_some_iff.mp H
  obtain ⟨t176, A40, H⟩ := H
  replace H : (if t176 = true then (spec_BufOk.j0 k (decide ((l0_5.length : Int) > 48)) a0_0 a0_1 a0_2 a0_3 a0_4 l0_5) else (spec_BufOk.j0 k true a0_0 a0_1 a0_2 a0_3 a0_4 l0_5)) = some r := H
  have A4 := Aside0.mk A40
  clear A40
  by_cases c5 : t176 = true
  ·subst c5
   have H1 : (spec_BufOk.j0 k (decide ((l0_5.length : Int) > 48)) a0_0 a0_1 a0_2 a0_3 a0_4 l0_5) = some r := by rw [if_pos rfl] at H; exact H
   clear H
   have H := H1
   clear H1
   have H' := Aside0.mk H
   clear H; have hcz6_0 := bc_ BK175 0 (.int .i64 a0_0) rfl; have hcz6_1 := bc_ BK175 1 (.int .i64 a0_1) rfl; have hcz6_2 := bc_ BK175 2 (.int .i64 a0_2) rfl; have hcz6_3 := bc_ BK175 3 (.int .i64 a0_3) rfl; have hcz6_4 := bc_ BK175 4 (.bool a0_4) rfl; have hcz6_5 := bc_ BK175 5 (.slice A0_5 l0_5.length c0_5) rfl; have hfz6_0 := blk_frozen BK175.out 0; have hfz6_1 := blk_frozen BK175.out 1; have hfz6_2 := blk_frozen BK175.out 2; have hfz6_3 := blk_frozen BK175.out 3; have hfz6_4 := blk_frozen BK175.out 4; have hfz6_5 := blk_frozen BK175.out 5
   go_wp2_with (first | (go_at_call 104; (with_reducible refine (spec_LimitsOk.calls a0_0 a0_1 a0_2 a0_3 a0_4 true _ A4.out).mono ?_); rintro e w7 ⟨rfl, hb⟩; have n0_ := bb_ BK175 hb; have n1_ := Aside0.mk (below_step (bf_ HB) hb); clear BK175; clear HB; have BK175 := n0_; have HB := n1_; clear n0_ n1_; (try clear hb); (try clear hb2); (try clear hk); (try clear hi); have hcz8_0 := bc_ BK175 0 (.int .i64 a0_0) rfl; have hcz8_1 := bc_ BK175 1 (.int .i64 a0_1) rfl; have hcz8_2 := bc_ BK175 2 (.int .i64 a0_2) rfl; have hcz8_3 := bc_ BK175 3 (.int .i64 a0_3) rfl; have hcz8_4 := bc_ BK175 4 (.bool a0_4) rfl; have hcz8_5 := bc_ BK175 5 (.slice A0_5 l0_5.length c0_5) rfl; have hfz8_0 := blk_frozen BK175.out 0; have hfz8_1 := blk_frozen BK175.out 1; have hfz8_2 := blk_frozen BK175.out 2; have hfz8_3 := blk_frozen BK175.out 3; have hfz8_4 := blk_frozen BK175.out 4; have hfz8_5 := blk_frozen BK175.out 5))
   repeat (go_quiet (first | (go_at_call 104; (with_reducible refine (spec_LimitsOk.calls a0_0 a0_1 a0_2 a0_3 a0_4 true _ A4.out).mono ?_); rintro e w7 ⟨rfl, hb⟩; have n0_ := bb_ BK175 hb; have n1_ := Aside0.mk (below_step (bf_ HB) hb); clear BK175; clear HB; have BK175 := n0_; have HB := n1_; clear n0_ n1_; (try clear hb); (try clear hb2); (try clear hk); (try clear hi); have hcz8_0 := bc_ BK175 0 (.int .i64 a0_0) rfl; have hcz8_1 := bc_ BK175 1 (.int .i64 a0_1) rfl; have hcz8_2 := bc_ BK175 2 (.int .i64 a0_2) rfl; have hcz8_3 := bc_ BK175 3 (.int .i64 a0_3) rfl; have hcz8_4 := bc_ BK175 4 (.bool a0_4) rfl; have hcz8_5 := bc_ BK175 5 (.slice A0_5 l0_5.length c0_5) rfl; have hfz8_0 := blk_frozen BK175.out 0; have hfz8_1 := blk_frozen BK175.out 1; have hfz8_2 := blk_frozen BK175.out 2; have hfz8_3 := blk_frozen BK175.out 3; have hfz8_4 := blk_frozen BK175.out 4; have hfz8_5 := blk_frozen BK175.out 5)); try go_wp2_with (first | (go_at_call 104; (with_reducible refine (spec_LimitsOk.calls a0_0 a0_1 a0_2 a0_3 a0_4 true _ A4.out).mono ?_); rintro e w7 ⟨rfl, hb⟩; have n0_ := bb_ BK175 hb; have n1_ := Aside0.mk (below_step (bf_ HB) hb); clear BK175; clear HB; have BK175 := n0_; have HB := n1_; clear n0_ n1_; (try clear hb); (try clear hb2); (try clear hk); (try clear hi); have hcz8_0 := bc_ BK175 0 (.int .i64 a0_0) rfl; have hcz8_1 := bc_ BK175 1 (.int .i64 a0_1) rfl; have hcz8_2 := bc_ BK175 2 (.int .i64 a0_2) rfl; have hcz8_3 := bc_ BK175 3 (.int .i64 a0_3) rfl; have hcz8_4 := bc_ BK175 4 (.bool a0_4) rfl; have hcz8_5 := bc_ BK175 5 (.slice A0_5 l0_5.length c0_5) rfl; have hfz8_0 := blk_frozen BK175.out 0; have hfz8_1 := blk_frozen BK175.out 1; have hfz8_2 := blk_frozen BK175.out 2; have hfz8_3 := blk_frozen BK175.out 3; have hfz8_4 := blk_frozen BK175.out 4; have hfz8_5 := blk_frozen BK175.out 5)))
   go_meet
   case rel => exact ⟨_, (decide ((l0_5.length : Int) > 48)), (by first | rfl | (simp; done) | (simp [*]; done)), H', ⟨by first | omega | exact Nat.le_refl _⟩, ⟨bk_ BK175⟩, ⟨bf_ HB⟩⟩
  ·replace c5 := Bool.eq_false_iff.mpr c5
   subst c5
   have H1 : (spec_BufOk.j0 k true a0_0 a0_1 a0_2 a0_3 a0_4 l0_5) = some r := by rw [if_neg (show ¬ (false = true) by decide)] at H; exact H
   clear H
   have H := H1
   clear H1
   have H' := Aside0.mk H
   clear H; have hcz9_0 := bc_ BK175 0 (.int .i64 a0_0) rfl; have hcz9_1 := bc_ BK175 1 (.int .i64 a0_1) rfl; have hcz9_2 := bc_ BK175 2 (.int .i64 a0_2) rfl; have hcz9_3 := bc_ BK175 3 (.int .i64 a0_3) rfl; have hcz9_4 := bc_ BK175 4 (.bool a0_4) rfl; have hcz9_5 := bc_ BK175 5 (.slice A0_5 l0_5.length c0_5) rfl; have hfz9_0 := blk_frozen BK175.out 0; have hfz9_1 := blk_frozen BK175.out 1; have hfz9_2 := blk_frozen BK175.out 2; have hfz9_3 := blk_frozen BK175.out 3; have hfz9_4 := blk_frozen BK175.out 4; have hfz9_5 := blk_frozen BK175.out 5
   go_wp2_with (first | (go_at_call 104; (with_reducible refine (spec_LimitsOk.calls a0_0 a0_1 a0_2 a0_3 a0_4 false _ A4.out).mono ?_); rintro e w10 ⟨rfl, hb⟩; have n0_ := bb_ BK175 hb; have n1_ := Aside0.mk (below_step (bf_ HB) hb); clear BK175; clear HB; have BK175 := n0_; have HB := n1_; clear n0_ n1_; (try clear hb); (try clear hb2); (try clear hk); (try clear hi)))
   repeat (go_quiet (first | (go_at_call 104; (with_reducible refine (spec_LimitsOk.calls a0_0 a0_1 a0_2 a0_3 a0_4 false _ A4.out).mono ?_); rintro e w10 ⟨rfl, hb⟩; have n0_ := bb_ BK175 hb; have n1_ := Aside0.mk (below_step (bf_ HB) hb); clear BK175; clear HB; have BK175 := n0_; have HB := n1_; clear n0_ n1_; (try clear hb); (try clear hb2); (try clear hk); (try clear hi))); try go_wp2_with (first | (go_at_call 104; (with_reducible refine (spec_LimitsOk.calls a0_0 a0_1 a0_2 a0_3 a0_4 false _ A4.out).mono ?_); rintro e w10 ⟨rfl, hb⟩; have n0_ := bb_ BK175 hb; have n1_ := Aside0.mk (below_step (bf_ HB) hb); clear BK175; clear HB; have BK175 := n0_; have HB := n1_; clear n0_ n1_; (try clear hb); (try clear hb2); (try clear hk); (try clear hi))))
   go_meet
   case rel => exact ⟨_, (true), (by first | rfl | (simp; done) | (simp [*]; done)), H', ⟨by first | omega | exact Nat.le_refl _⟩, ⟨bk_ BK175⟩, ⟨bf_ HB⟩⟩
 case rest =>
  clear HC2; (try clear p2); (try clear c4); (try clear c5); (try clear hcz6_0 hcz6_1 hcz6_2 hcz6_3 hcz6_4 hcz6_5 hfz6_0 hfz6_1 hfz6_2 hfz6_3 hfz6_4 hfz6_5); (try clear hcz8_0 hcz8_1 hcz8_2 hcz8_3 hcz8_4 hcz8_5 hfz8_0 hfz8_1 hfz8_2 hfz8_3 hfz8_4 hfz8_5); (try clear hcz9_0 hcz9_1 hcz9_2 hcz9_3 hcz9_4 hcz9_5 hfz9_0 hfz9_1 hfz9_2 hfz9_3 hfz9_4 hfz9_5)
  obtain ⟨kq, x17_1, rfl, HA, HJ1, BK175, HB⟩ := hcut
  cases kq with
  | zero => exact absurd HA.out (by simp [spec_BufOk.j0])
  | succ kj1 =>
   have H := HA.out
   clear HA
   simp only [spec_BufOk.j0] at H
   by_cases c11 : x17_1 = true
   ·subst c11
    have H1 : (some false) = some r := by rw [if_pos rfl] at H; exact H
    clear H
    have H := H1
    clear H1
    obtain rfl := Option.some.inj H
    go_wp2
    repeat (go_quiet (fail); try go_wp2)
    go_ret
    exact ⟨by first | rfl | (simp [errW_none, errW_some] <;> rfl) | (simp [*, errW_none, errW_some] <;> rfl), bf_ HB⟩
   ·replace c11 := Bool.eq_false_iff.mpr c11
    subst c11
    have H1 : (spec_BufOk.l0 kj1 0 a0_0 a0_1 a0_2 a0_3 a0_4 l0_5) = some r := by rw [if_neg (show ¬ (false = true) by decide)] at H; exact H
    clear H
    have H := H1
    clear H1
    have H' := Aside0.mk H
    clear H
    go_wp2
    repeat (go_quiet (fail); try go_wp2)
    go_loopg [3] kj1 (fun kq v3 w' => ∃ (x3_2 : Int), v3 = .int .i64 x3_2 ∧ Aside0 (spec_BufOk.l0 kq x3_2 a0_0 a0_1 a0_2 a0_3 a0_4 l0_5 = some r) ∧ Aside0 (kq ≤ kj1) ∧ Aside0 (w'.heap[gb175]? = some (.cells #[.int .i64 a0_0, .int .i64 a0_1, .int .i64 a0_2, .int .i64 a0_3, .bool a0_4, (.slice A0_5 l0_5.length c0_5)] 47 (0, 0))) ∧ Aside0 (Below w.heap.size w w'))
    case atStart => exact ⟨(0), (by first | rfl | (simp; done) | (simp [*]; done)), H', ⟨Nat.le_refl _⟩, ⟨bk_ BK175⟩, ⟨bf_ HB⟩⟩
    case round =>
     clear H'
     (try clear c1); (try clear p2 p2); (try clear c4); (try clear c5); (try clear c11); (try clear hcz6_0 hcz6_1 hcz6_2 hcz6_3 hcz6_4 hcz6_5 hfz6_0 hfz6_1 hfz6_2 hfz6_3 hfz6_4 hfz6_5); (try clear hcz8_0 hcz8_1 hcz8_2 hcz8_3 hcz8_4 hcz8_5 hfz8_0 hfz8_1 hfz8_2 hfz8_3 hfz8_4 hfz8_5); (try clear hcz9_0 hcz9_1 hcz9_2 hcz9_3 hcz9_4 hcz9_5 hfz9_0 hfz9_1 hfz9_2 hfz9_3 hfz9_4 hfz9_5)
     obtain ⟨x3_2, rfl, HA, HK2, BK175, HB⟩ := hrel
     cases gk with
     | zero => exact absurd HA.out (by simp [spec_BufOk.l0])
     | succ k2 =>
      have H := HA.out
      clear HA
      simp only [spec_BufOk.l0] at H
      by_cases c12 : x3_2 < (l0_5.length : Int)
      ·rw [if_pos c12] at H
       have c12b0 : decide (x3_2 < (l0_5.length : Int)) = true := decide_eq_true c12
       clear c12
       by_cases c13 : 0 ≤ x3_2
       ·rw [if_pos c13] at H
        have c13b0 : decide (0 ≤ x3_2) = true := decide_eq_true c13
        clear c13
        have HC14 := Aside0.mk H
        clear H; have hcz15_0 := bc_ BK175 0 (.int .i64 a0_0) rfl; have hcz15_1 := bc_ BK175 1 (.int .i64 a0_1) rfl; have hcz15_2 := bc_ BK175 2 (.int .i64 a0_2) rfl; have hcz15_3 := bc_ BK175 3 (.int .i64 a0_3) rfl; have hcz15_4 := bc_ BK175 4 (.bool a0_4) rfl; have hcz15_5 := bc_ BK175 5 (.slice A0_5 l0_5.length c0_5) rfl; have hfz15_0 := blk_frozen BK175.out 0; have hfz15_1 := blk_frozen BK175.out 1; have hfz15_2 := blk_frozen BK175.out 2; have hfz15_3 := blk_frozen BK175.out 3; have hfz15_4 := blk_frozen BK175.out 4; have hfz15_5 := blk_frozen BK175.out 5
        have p177 : 0 ≤ (x3_2 : Int) := of_decide_eq_true (by first | (with_reducible assumption) | assumption)
        have q177 : x3_2 < (l0_5.length : Int) := of_decide_eq_true (by first | (with_reducible assumption) | assumption)
        obtain ⟨ad177, A177_1, c177_1, e177, hx177_0, hx177_1, hl177_1, hi177_1⟩ := at_T80 HR0_5.out x3_2 p177 q177
        cases e177
        replace hx177_0 := (HB.out.cell (World.block_lt_of_cell? w _ hx177_0)).trans hx177_0
        replace hx177_1 := (HB.out.cell (World.block_lt_of_cell? w _ hx177_1)).trans hx177_1
        have HR177_1 := Aside0.mk hi177_1
        have HC177_1 := Aside0.mk hl177_1
        clear hi177_1 hl177_1
        replace p177 := eq_true p177
        replace q177 := eq_true q177
        go_upto_region 7 with (first | ((with_reducible refine gate_dst (N := 4) rfl ?_); (try (refine gate_guard (by rfl) ?_; dsimp only)); refine box_event ?hg (N := 4) ?hd (cs := #[.int .i64 0, .slice none 0 0]) (t := 80) ?hr ?_; (case hd => rfl); (case hg => rfl); (case hr => first | (go_simp; done) | (go_simp; rfl)); intro gb178 hg w16 hbox hb; have n0_ := bb_ BK175 hb; have n1_ := Aside0.mk (below_step (bf_ HB) hb); have n2_ := Aside0.mk (hbox); have n3_ := gw_ HB hg; have n4_ := gw_ HB hg; have n5_ := nl_ BK175 hg; have n6_ := ng_ BK175 hg; clear BK175; clear HB; have BK175 := n0_; have HB := n1_; have BK178 := n2_; have GW178 := n3_; have GE178 := n4_; have NB175_178 := n5_; have NB178_175 := n6_; clear n0_ n1_ n2_ n3_ n4_ n5_ n6_; clear hb hbox hg; have hnb17 := NB178_175.out; have hnc17 := NB175_178.out; have hcz18_0 := bc_ BK178 0 (.int .i64 0) rfl; have hcz18_1 := bc_ BK178 1 (.slice none 0 0) rfl; have hfz18_0 := blk_frozen BK178.out 0; have hfz18_1 := blk_frozen BK178.out 1))
        repeat (go_quiet (first | ((with_reducible refine gate_dst (N := 4) rfl ?_); (try (refine gate_guard (by rfl) ?_; dsimp only)); refine box_event ?hg (N := 4) ?hd (cs := #[.int .i64 0, .slice none 0 0]) (t := 80) ?hr ?_; (case hd => rfl); (case hg => rfl); (case hr => first | (go_simp; done) | (go_simp; rfl)); intro gb178 hg w16 hbox hb; have n0_ := bb_ BK175 hb; have n1_ := Aside0.mk (below_step (bf_ HB) hb); have n2_ := Aside0.mk (hbox); have n3_ := gw_ HB hg; have n4_ := gw_ HB hg; have n5_ := nl_ BK175 hg; have n6_ := ng_ BK175 hg; clear BK175; clear HB; have BK175 := n0_; have HB := n1_; have BK178 := n2_; have GW178 := n3_; have GE178 := n4_; have NB175_178 := n5_; have NB178_175 := n6_; clear n0_ n1_ n2_ n3_ n4_ n5_ n6_; clear hb hbox hg; have hnb17 := NB178_175.out; have hnc17 := NB175_178.out; have hcz18_0 := bc_ BK178 0 (.int .i64 0) rfl; have hcz18_1 := bc_ BK178 1 (.slice none 0 0) rfl; have hfz18_0 := blk_frozen BK178.out 0; have hfz18_1 := blk_frozen BK178.out 1)); go_upto_region 7 with (first | ((with_reducible refine gate_dst (N := 4) rfl ?_); (try (refine gate_guard (by rfl) ?_; dsimp only)); refine box_event ?hg (N := 4) ?hd (cs := #[.int .i64 0, .slice none 0 0]) (t := 80) ?hr ?_; (case hd => rfl); (case hg => rfl); (case hr => first | (go_simp; done) | (go_simp; rfl)); intro gb178 hg w16 hbox hb; have n0_ := bb_ BK175 hb; have n1_ := Aside0.mk (below_step (bf_ HB) hb); have n2_ := Aside0.mk (hbox); have n3_ := gw_ HB hg; have n4_ := gw_ HB hg; have n5_ := nl_ BK175 hg; have n6_ := ng_ BK175 hg; clear BK175; clear HB; have BK175 := n0_; have HB := n1_; have BK178 := n2_; have GW178 := n3_; have GE178 := n4_; have NB175_178 := n5_; have NB178_175 := n6_; clear n0_ n1_ n2_ n3_ n4_ n5_ n6_; clear hb hbox hg; have hnb17 := NB178_175.out; have hnc17 := NB175_178.out; have hcz18_0 := bc_ BK178 0 (.int .i64 0) rfl; have hcz18_1 := bc_ BK178 1 (.slice none 0 0) rfl; have hfz18_0 := blk_frozen BK178.out 0; have hfz18_1 := blk_frozen BK178.out 1)))
        (try simp only [Act.put, List.setIfInBounds_toArray, List.set_cons_zero, List.set_cons_succ])
        go_cut [53] (fun v53 wc => ∃ (kq : Nat) (x53_13 : Bool), v53 = .bool x53_13 ∧ Aside0 (spec_BufOk.j2 kq x3_2 x53_13 a0_0 a0_1 a0_2 a0_3 a0_4 l0_5 ((rd_T80 l0_5 x3_2).f0) ((rd_T80 l0_5 x3_2).f1) = some r) ∧ Aside0 (kq ≤ k2) ∧ Aside0 (wc.heap[gb175]? = some (.cells #[.int .i64 a0_0, .int .i64 a0_1, .int .i64 a0_2, .int .i64 a0_3, .bool a0_4, (.slice (some ad177) l0_5.length c0_5)] 47 (0, 0))) ∧ Aside0 (wc.heap[gb178]? = some (.cells #[.int .i64 ((rd_T80 l0_5 x3_2).f0), (.slice A177_1 ((rd_T80 l0_5 x3_2).f1).length c177_1)] 80 (0, 0))) ∧ Aside0 (Below w.heap.size w wc))
        case first =>
         have H := HC14.out
         clear HC14
         by_cases c19 : ((rd_T80 l0_5 x3_2).f0) < 0
         ·rw [if_pos c19] at H
          have c19b0 : decide (((rd_T80 l0_5 x3_2).f0) < 0) = true := decide_eq_true c19
          clear c19
          (first | rw [c19b0] | (simp only [i64_w, i32_w]; rw [c19b0]) | skip)
          have H' := Aside0.mk H
          clear H; have hnb20 := NB178_175.out; have hnc20 := NB175_178.out; have hcz21_0 := bc_ BK178 0 (.int .i64 0) rfl; have hcz21_1 := bc_ BK178 1 (.slice none 0 0) rfl; have hfz21_0 := blk_frozen BK178.out 0; have hfz21_1 := blk_frozen BK178.out 1
          go_wp2
          repeat (go_quiet (fail); try go_wp2)
          go_meet
          case rel => exact ⟨_, (true), (by first | rfl | (simp; done) | (simp [*]; done)), H', ⟨by have := HJ1.out; have := HK2.out; first | omega | exact Nat.le_refl _⟩, ⟨by (with_reducible repeat (first | refine blk_drewN ?_ _ | refine blk_drew ?_ | refine blk_alloc ?_ _)); refine blk_far ?_ NB175_178.out _; (with_reducible repeat (first | refine blk_drewN ?_ _ | refine blk_drew ?_ | refine blk_alloc ?_ _)); refine blk_far ?_ NB175_178.out _; exact bk_ BK175⟩, ⟨by (with_reducible repeat (first | refine blk_drewN ?_ _ | refine blk_drew ?_ | refine blk_alloc ?_ _)); refine blk_put (cs := #[.int .i64 ((rd_T80 l0_5 x3_2).f0), .slice none 0 0]) ?_ 1 _ rfl; (with_reducible repeat (first | refine blk_drewN ?_ _ | refine blk_drew ?_ | refine blk_alloc ?_ _)); refine blk_put (cs := #[.int .i64 0, .slice none 0 0]) ?_ 0 _ rfl; exact bk_ BK178⟩, ⟨bf_ HB⟩⟩
         ·rw [if_neg c19] at H
          have c19b0 : decide (((rd_T80 l0_5 x3_2).f0) < 0) = false := decide_eq_false c19
          clear c19
          (first | rw [c19b0] | (simp only [i64_w, i32_w]; rw [c19b0]) | skip)
          by_cases c22 : ((rd_T80 l0_5 x3_2).f0) > 9999
          ·rw [if_pos c22] at H
           have c22b0 : decide (9999 < ((rd_T80 l0_5 x3_2).f0)) = true := decide_eq_true c22
           clear c22
           have H' := Aside0.mk H
           clear H; have hnb23 := NB178_175.out; have hnc23 := NB175_178.out; have hcz24_0 := bc_ BK178 0 (.int .i64 0) rfl; have hcz24_1 := bc_ BK178 1 (.slice none 0 0) rfl; have hfz24_0 := blk_frozen BK178.out 0; have hfz24_1 := blk_frozen BK178.out 1
           go_wp2
           repeat (go_quiet (fail); try go_wp2)
           go_meet
           case rel => exact ⟨_, (true), (by first | rfl | (simp; done) | (simp [*]; done)), H', ⟨by have := HJ1.out; have := HK2.out; first | omega | exact Nat.le_refl _⟩, ⟨by (with_reducible repeat (first | refine blk_drewN ?_ _ | refine blk_drew ?_ | refine blk_alloc ?_ _)); refine blk_far ?_ NB175_178.out _; (with_reducible repeat (first | refine blk_drewN ?_ _ | refine blk_drew ?_ | refine blk_alloc ?_ _)); refine blk_far ?_ NB175_178.out _; exact bk_ BK175⟩, ⟨by (with_reducible repeat (first | refine blk_drewN ?_ _ | refine blk_drew ?_ | refine blk_alloc ?_ _)); refine blk_put (cs := #[.int .i64 ((rd_T80 l0_5 x3_2).f0), .slice none 0 0]) ?_ 1 _ rfl; (with_reducible repeat (first | refine blk_drewN ?_ _ | refine blk_drew ?_ | refine blk_alloc ?_ _)); refine blk_put (cs := #[.int .i64 0, .slice none 0 0]) ?_ 0 _ rfl; exact bk_ BK178⟩, ⟨bf_ HB⟩⟩
          ·rw [if_neg c22] at H
           have c22b0 : decide (9999 < ((rd_T80 l0_5 x3_2).f0)) = false := decide_eq_false c22
           clear c22
           by_cases c25 : x3_2 > 0
           ·rw [if_pos c25] at H
            have c25b0 : decide (0 < x3_2) = true := decide_eq_true c25
            clear c25
            obtain ⟨ji26, hji26⟩ : ∃ j_ : Int, (wrap64 (x3_2 - 1)) = j_ := ⟨_, rfl⟩
            replace H : (if 0 ≤ (ji26) then (if (ji26) < (l0_5.length : Int) then (spec_BufOk.j2 k2 x3_2 (decide (((rd_T80 l0_5 (ji26)).f0) ≥ ((rd_T80 l0_5 x3_2).f0))) a0_0 a0_1 a0_2 a0_3 a0_4 l0_5 ((rd_T80 l0_5 x3_2).f0) ((rd_T80 l0_5 x3_2).f1)) else (none)) else (none)) = some r := by first | (rw [hji26] at H; exact H) | (simp only [hji26] at H ⊢; exact H)
            have hji26w : (IntKind.i64.wrap (x3_2 - 1)) = ji26 := (i64_w _).trans hji26
            by_cases c27 : 0 ≤ (ji26)
            ·rw [if_pos c27] at H
             have c27b0 : decide (0 ≤ (ji26)) = true := decide_eq_true c27
             clear c27
             by_cases c28 : (ji26) < (l0_5.length : Int)
             ·rw [if_pos c28] at H
              have c28b0 : decide ((ji26) < (l0_5.length : Int)) = true := decide_eq_true c28
              clear c28
              have H' := Aside0.mk H
              clear H; have hnb29 := NB178_175.out; have hnc29 := NB175_178.out; have hcz30_0 := bc_ BK178 0 (.int .i64 0) rfl; have hcz30_1 := bc_ BK178 1 (.slice none 0 0) rfl; have hfz30_0 := blk_frozen BK178.out 0; have hfz30_1 := blk_frozen BK178.out 1; have hcz31_0 := bc_ BK175 0 (.int .i64 a0_0) rfl; have hcz31_1 := bc_ BK175 1 (.int .i64 a0_1) rfl; have hcz31_2 := bc_ BK175 2 (.int .i64 a0_2) rfl; have hcz31_3 := bc_ BK175 3 (.int .i64 a0_3) rfl; have hcz31_4 := bc_ BK175 4 (.bool a0_4) rfl; have hcz31_5 := bc_ BK175 5 (.slice (some ad177) l0_5.length c0_5) rfl; have hfz31_0 := blk_frozen BK175.out 0; have hfz31_1 := blk_frozen BK175.out 1; have hfz31_2 := blk_frozen BK175.out 2; have hfz31_3 := blk_frozen BK175.out 3; have hfz31_4 := blk_frozen BK175.out 4; have hfz31_5 := blk_frozen BK175.out 5
              have p179 : 0 ≤ ((ji26) : Int) := of_decide_eq_true (by first | (with_reducible assumption) | assumption)
              have q179 : (ji26) < (l0_5.length : Int) := of_decide_eq_true (by first | (with_reducible assumption) | assumption)
              obtain ⟨ad179, A179_1, c179_1, e179, hx179_0, hx179_1, hl179_1, hi179_1⟩ := at_T80 HR0_5.out (ji26) p179 q179
              obtain rfl : ad177 = ad179 := (by injection e179)
              have hn179_0 : ad177.block ≠ gb178 := Nat.ne_of_lt (Nat.lt_of_lt_of_le (by have := World.block_lt_of_cell? _ _ hx179_0; first | rwa [add_block] at this | exact this) GW178.out)
              have hn179_1 : ad177.block ≠ gb178 := Nat.ne_of_lt (Nat.lt_of_lt_of_le (by have := World.block_lt_of_cell? _ _ hx179_0; first | rwa [add_block] at this | exact this) GW178.out)
              replace hx179_0 := (HB.out.cell (World.block_lt_of_cell? w _ hx179_0)).trans hx179_0
              replace hx179_1 := (HB.out.cell (World.block_lt_of_cell? w _ hx179_1)).trans hx179_1
              have HR179_1 := Aside0.mk hi179_1
              have HC179_1 := Aside0.mk hl179_1
              clear hi179_1 hl179_1
              replace hx179_0 := (cell_far (p := ⟨gb178, 0, none⟩) (by first | (rw [add_block]; exact hn179_0) | (show (Addr.add _ _).block ≠ _; rw [add_block]; exact hn179_0) | exact hn179_0) (.int .i64 ((rd_T80 l0_5 x3_2).f0))).trans hx179_0
              replace hx179_1 := (cell_far (p := ⟨gb178, 0, none⟩) (by first | (rw [add_block]; exact hn179_0) | (show (Addr.add _ _).block ≠ _; rw [add_block]; exact hn179_0) | exact hn179_0) (.int .i64 ((rd_T80 l0_5 x3_2).f0))).trans hx179_1
              replace hx179_0 := (cell_far (p := ⟨gb178, 1, none⟩) (by first | (rw [add_block]; exact hn179_1) | (show (Addr.add _ _).block ≠ _; rw [add_block]; exact hn179_1) | exact hn179_1) (.slice A177_1 ((rd_T80 l0_5 x3_2).f1).length c177_1)).trans hx179_0
              replace hx179_1 := (cell_far (p := ⟨gb178, 1, none⟩) (by first | (rw [add_block]; exact hn179_1) | (show (Addr.add _ _).block ≠ _; rw [add_block]; exact hn179_1) | exact hn179_1) (.slice A177_1 ((rd_T80 l0_5 x3_2).f1).length c177_1)).trans hx179_1
              (try have hy179_0 := fun (n_ : Nat) => (show ((((w16.drewN n_).setCell ⟨gb178, 0, none⟩ (.int .i64 ((rd_T80 l0_5 x3_2).f0))).setCell ⟨gb178, 1, none⟩ (.slice A177_1 ((rd_T80 l0_5 x3_2).f1).length c177_1))).cell? _ = some _ from hx179_0))
              (try have hy179_1 := fun (n_ : Nat) => (show ((((w16.drewN n_).setCell ⟨gb178, 0, none⟩ (.int .i64 ((rd_T80 l0_5 x3_2).f0))).setCell ⟨gb178, 1, none⟩ (.slice A177_1 ((rd_T80 l0_5 x3_2).f1).length c177_1))).cell? _ = some _ from hx179_1))
              clear hn179_0; clear hn179_1
              replace p179 := eq_true p179
              replace q179 := eq_true q179
              go_wp2
              repeat (go_quiet (fail); try go_wp2)
              go_meet
              case rel => exact ⟨_, (decide (((rd_T80 l0_5 (ji26)).f0) ≥ ((rd_T80 l0_5 x3_2).f0))), (by first | rfl | (simp; done) | (simp only [← hji26] <;> (first | rfl | simp)) | (simp [*]; done)), H', ⟨by have := HJ1.out; have := HK2.out; first | omega | exact Nat.le_refl _⟩, ⟨by (with_reducible repeat (first | refine blk_drewN ?_ _ | refine blk_drew ?_ | refine blk_alloc ?_ _)); refine blk_far ?_ NB175_178.out _; (with_reducible repeat (first | refine blk_drewN ?_ _ | refine blk_drew ?_ | refine blk_alloc ?_ _)); refine blk_far ?_ NB175_178.out _; exact bk_ BK175⟩, ⟨by (with_reducible repeat (first | refine blk_drewN ?_ _ | refine blk_drew ?_ | refine blk_alloc ?_ _)); refine blk_put (cs := #[.int .i64 ((rd_T80 l0_5 x3_2).f0), .slice none 0 0]) ?_ 1 _ rfl; (with_reducible repeat (first | refine blk_drewN ?_ _ | refine blk_drew ?_ | refine blk_alloc ?_ _)); refine blk_put (cs := #[.int .i64 0, .slice none 0 0]) ?_ 0 _ rfl; exact bk_ BK178⟩, ⟨bf_ HB⟩⟩
             ·rw [if_neg c28] at H
              exact absurd H (by simp)
            ·rw [if_neg c27] at H
             exact absurd H (by simp)
           ·rw [if_neg c25] at H
            have c25b0 : decide (0 < x3_2) = false := decide_eq_false c25
            clear c25
            have H' := Aside0.mk H
            clear H; have hnb32 := NB178_175.out; have hnc32 := NB175_178.out; have hcz33_0 := bc_ BK178 0 (.int .i64 0) rfl; have hcz33_1 := bc_ BK178 1 (.slice none 0 0) rfl; have hfz33_0 := blk_frozen BK178.out 0; have hfz33_1 := blk_frozen BK178.out 1
            go_wp2
            repeat (go_quiet (fail); try go_wp2)
            go_meet
            case rel => exact ⟨_, (false), (by first | rfl | (simp; done) | (simp [*]; done)), H', ⟨by have := HJ1.out; have := HK2.out; first | omega | exact Nat.le_refl _⟩, ⟨by (with_reducible repeat (first | refine blk_drewN ?_ _ | refine blk_drew ?_ | refine blk_alloc ?_ _)); refine blk_far ?_ NB175_178.out _; (with_reducible repeat (first | refine blk_drewN ?_ _ | refine blk_drew ?_ | refine blk_alloc ?_ _)); refine blk_far ?_ NB175_178.out _; exact bk_ BK175⟩, ⟨by (with_reducible repeat (first | refine blk_drewN ?_ _ | refine blk_drew ?_ | refine blk_alloc ?_ _)); refine blk_put (cs := #[.int .i64 ((rd_T80 l0_5 x3_2).f0), .slice none 0 0]) ?_ 1 _ rfl; (with_reducible repeat (first | refine blk_drewN ?_ _ | refine blk_drew ?_ | refine blk_alloc ?_ _)); refine blk_put (cs := #[.int .i64 0, .slice none 0 0]) ?_ 0 _ rfl; exact bk_ BK178⟩, ⟨bf_ HB⟩⟩
        case rest =>
         clear HC14; (try clear c1); (try clear p1); (try clear q1); (try clear hx1); (try clear c2); (try clear p2 p2); (try clear c3); (try clear c4); (try clear c5); (try clear p6); (try clear c11); (try clear c12); (try clear c12b0); (try clear c13); (try clear c13b0); (try clear c17); (try clear p17); (try clear q17); (try clear hx17); (try clear c19); (try clear c19b0); (try clear c20); (try clear c22); (try clear c22b0); (try clear c23); (try clear c25); (try clear c25b0); (try clear c27); (try clear c27b0); (try clear c28); (try clear c28b0); (try clear c29); (try clear c32); (try clear hcz15_0 hcz15_1 hcz15_2 hcz15_3 hcz15_4 hcz15_5 hfz15_0 hfz15_1 hfz15_2 hfz15_3 hfz15_4 hfz15_5); (try clear hcz18_0 hcz18_1 hfz18_0 hfz18_1); (try clear hcz21_0 hcz21_1 hfz21_0 hfz21_1); (try clear hcz24_0 hcz24_1 hfz24_0 hfz24_1); (try clear hcz30_0 hcz30_1 hfz30_0 hfz30_1); (try clear hcz31_0 hcz31_1 hcz31_2 hcz31_3 hcz31_4 hcz31_5 hfz31_0 hfz31_1 hfz31_2 hfz31_3 hfz31_4 hfz31_5); (try clear hcz33_0 hcz33_1 hfz33_0 hfz33_1); (try clear hcz6_0 hcz6_1 hcz6_2 hcz6_3 hcz6_4 hcz6_5 hfz6_0 hfz6_1 hfz6_2 hfz6_3 hfz6_4 hfz6_5); (try clear hcz8_0 hcz8_1 hcz8_2 hcz8_3 hcz8_4 hcz8_5 hfz8_0 hfz8_1 hfz8_2 hfz8_3 hfz8_4 hfz8_5); (try clear hcz9_0 hcz9_1 hcz9_2 hcz9_3 hcz9_4 hcz9_5 hfz9_0 hfz9_1 hfz9_2 hfz9_3 hfz9_4 hfz9_5); (try clear hx177_0); (try clear hx177_1); (try clear hx179_0); (try clear hx179_1); (try clear p177); (try clear p179); (try clear q177); (try clear q179)
         obtain ⟨kq, x53_13, rfl, HA, HJ13, BK175, BK178, HB⟩ := hcut
         cases kq with
         | zero => exact absurd HA.out (by simp [spec_BufOk.j2])
         | succ kj13 =>
          have H := HA.out
          clear HA
          simp only [spec_BufOk.j2] at H
          by_cases c34 : x53_13 = true
          ·subst c34
           have H1 : (some false) = some r := by rw [if_pos rfl] at H; exact H
           clear H
           have H := H1
           clear H1
           obtain rfl := Option.some.inj H
           go_wp2
           repeat (go_quiet (fail); try go_wp2)
           go_ret
           exact ⟨by first | rfl | (simp [errW_none, errW_some] <;> rfl) | (simp [*, errW_none, errW_some] <;> rfl), bf_ HB⟩
          ·replace c34 := Bool.eq_false_iff.mpr c34
           subst c34
           have H1 : (if (((rd_T80 l0_5 x3_2).f1).length : Int) < 1 then (spec_BufOk.j3 kj13 x3_2 true a0_0 a0_1 a0_2 a0_3 a0_4 l0_5 ((rd_T80 l0_5 x3_2).f0) ((rd_T80 l0_5 x3_2).f1)) else (spec_BufOk.j3 kj13 x3_2 (decide ((((rd_T80 l0_5 x3_2).f1).length : Int) > a0_0)) a0_0 a0_1 a0_2 a0_3 a0_4 l0_5 ((rd_T80 l0_5 x3_2).f0) ((rd_T80 l0_5 x3_2).f1))) = some r := by rw [if_neg (show ¬ (false = true) by decide)] at H; exact H
           clear H
           have H := H1
           clear H1
           have HC35 := Aside0.mk H
           clear H
           go_upto_region 9 with (fail)
           repeat (go_quiet (fail); go_upto_region 9 with (fail))
           go_cut [66] (fun v66 wc => ∃ (kq : Nat) (x66_34 : Bool), v66 = .bool x66_34 ∧ Aside0 (spec_BufOk.j3 kq x3_2 x66_34 a0_0 a0_1 a0_2 a0_3 a0_4 l0_5 ((rd_T80 l0_5 x3_2).f0) ((rd_T80 l0_5 x3_2).f1) = some r) ∧ Aside0 (kq ≤ kj13) ∧ Aside0 (wc.heap[gb175]? = some (.cells #[.int .i64 a0_0, .int .i64 a0_1, .int .i64 a0_2, .int .i64 a0_3, .bool a0_4, (.slice (some ad177) l0_5.length c0_5)] 47 (0, 0))) ∧ Aside0 (wc.heap[gb178]? = some (.cells #[.int .i64 ((rd_T80 l0_5 x3_2).f0), (.slice A177_1 ((rd_T80 l0_5 x3_2).f1).length c177_1)] 80 (0, 0))) ∧ Aside0 (Below w.heap.size w wc))
           case first =>
            have H := HC35.out
            clear HC35
            by_cases c36 : (((rd_T80 l0_5 x3_2).f1).length : Int) < 1
            ·rw [if_pos c36] at H
             have c36b0 : decide ((((rd_T80 l0_5 x3_2).f1).length : Int) < 1) = true := decide_eq_true c36
             have c36b1 : decide (((rd_T80 l0_5 x3_2).f1).length < 1) = true := decide_eq_true (by omega)
             clear c36
             (first | rw [c36b0] | (simp only [i64_w, i32_w]; rw [c36b0]) | skip)
             have H' := Aside0.mk H
             clear H; have hnb37 := NB178_175.out; have hnc37 := NB175_178.out
             have hcz38_0 : wc.cell? ⟨gb178, 0, none⟩ = some (.int .i64 ((rd_T80 l0_5 x3_2).f0)) := (blk_cell BK178.out 0).trans rfl
             have hcz38_1 : wc.cell? ⟨gb178, 1, none⟩ = some (.slice A177_1 ((rd_T80 l0_5 x3_2).f1).length c177_1) := (blk_cell BK178.out 1).trans rfl
             have hfz38_0 := blk_frozen BK178.out 0; have hfz38_1 := blk_frozen BK178.out 1
             go_wp2
             repeat (go_quiet (fail); try go_wp2)
             go_meet
             case rel => exact ⟨_, (true), (by first | rfl | (simp; done) | (simp [*]; done)), H', ⟨by have := HJ1.out; have := HK2.out; have := HJ13.out; first | omega | exact Nat.le_refl _⟩, ⟨bk_ BK175⟩, ⟨bk_ BK178⟩, ⟨bf_ HB⟩⟩
            ·rw [if_neg c36] at H
             have c36b0 : decide ((((rd_T80 l0_5 x3_2).f1).length : Int) < 1) = false := decide_eq_false c36
             have c36b1 : decide (((rd_T80 l0_5 x3_2).f1).length < 1) = false := decide_eq_false (by omega)
             clear c36
             (first | rw [c36b0] | (simp only [i64_w, i32_w]; rw [c36b0]) | skip)
             have H' := Aside0.mk H
             clear H; have hnb39 := NB178_175.out; have hnc39 := NB175_178.out
             have hcz40_0 : wc.cell? ⟨gb178, 0, none⟩ = some (.int .i64 ((rd_T80 l0_5 x3_2).f0)) := (blk_cell BK178.out 0).trans rfl
             have hcz40_1 : wc.cell? ⟨gb178, 1, none⟩ = some (.slice A177_1 ((rd_T80 l0_5 x3_2).f1).length c177_1) := (blk_cell BK178.out 1).trans rfl
             have hfz40_0 := blk_frozen BK178.out 0; have hfz40_1 := blk_frozen BK178.out 1; have hcz41_0 := bc_ BK175 0 (.int .i64 a0_0) rfl; have hcz41_1 := bc_ BK175 1 (.int .i64 a0_1) rfl; have hcz41_2 := bc_ BK175 2 (.int .i64 a0_2) rfl; have hcz41_3 := bc_ BK175 3 (.int .i64 a0_3) rfl; have hcz41_4 := bc_ BK175 4 (.bool a0_4) rfl; have hcz41_5 := bc_ BK175 5 (.slice (some ad177) l0_5.length c0_5) rfl; have hfz41_0 := blk_frozen BK175.out 0; have hfz41_1 := blk_frozen BK175.out 1; have hfz41_2 := blk_frozen BK175.out 2; have hfz41_3 := blk_frozen BK175.out 3; have hfz41_4 := blk_frozen BK175.out 4; have hfz41_5 := blk_frozen BK175.out 5
             go_wp2
             repeat (go_quiet (fail); try go_wp2)
             go_meet
             case rel => exact ⟨_, (decide ((((rd_T80 l0_5 x3_2).f1).length : Int) > a0_0)), (by first | rfl | (simp; done) | (simp [*]; done)), H', ⟨by have := HJ1.out; have := HK2.out; have := HJ13.out; first | omega | exact Nat.le_refl _⟩, ⟨bk_ BK175⟩, ⟨bk_ BK178⟩, ⟨bf_ HB⟩⟩
           case rest =>
            clear HC35; (try clear c1); (try clear p1 p1); (try clear q1 q1); (try clear hx1); (try clear c2); (try clear p2 p2); (try clear c3); (try clear c4); (try clear c5); (try clear p6 p6); (try clear c11); (try clear c12); (try clear c12b0); (try clear c13); (try clear c13b0); (try clear c17); (try clear p17 p17); (try clear q17 q17); (try clear hx17); (try clear c19); (try clear c19b0); (try clear c20); (try clear c22); (try clear c22b0); (try clear c23); (try clear c25); (try clear c25b0); (try clear c27); (try clear c27b0); (try clear c28); (try clear c28b0); (try clear c29); (try clear c32); (try clear c34); (try clear c36); (try clear c36b0); (try clear c36b1); (try clear c37); (try clear c39); (try clear hcz15_0 hcz15_1 hcz15_2 hcz15_3 hcz15_4 hcz15_5 hfz15_0 hfz15_1 hfz15_2 hfz15_3 hfz15_4 hfz15_5); (try clear hcz18_0 hcz18_1 hfz18_0 hfz18_1); (try clear hcz21_0 hcz21_1 hfz21_0 hfz21_1); (try clear hcz24_0 hcz24_1 hfz24_0 hfz24_1); (try clear hcz30_0 hcz30_1 hfz30_0 hfz30_1); (try clear hcz31_0 hcz31_1 hcz31_2 hcz31_3 hcz31_4 hcz31_5 hfz31_0 hfz31_1 hfz31_2 hfz31_3 hfz31_4 hfz31_5); (try clear hcz33_0 hcz33_1 hfz33_0 hfz33_1); (try clear hcz38_0 hcz38_1 hfz38_0 hfz38_1); (try clear hcz40_0 hcz40_1 hfz40_0 hfz40_1); (try clear hcz41_0 hcz41_1 hcz41_2 hcz41_3 hcz41_4 hcz41_5 hfz41_0 hfz41_1 hfz41_2 hfz41_3 hfz41_4 hfz41_5); (try clear hcz6_0 hcz6_1 hcz6_2 hcz6_3 hcz6_4 hcz6_5 hfz6_0 hfz6_1 hfz6_2 hfz6_3 hfz6_4 hfz6_5); (try clear hcz8_0 hcz8_1 hcz8_2 hcz8_3 hcz8_4 hcz8_5 hfz8_0 hfz8_1 hfz8_2 hfz8_3 hfz8_4 hfz8_5); (try clear hcz9_0 hcz9_1 hcz9_2 hcz9_3 hcz9_4 hcz9_5 hfz9_0 hfz9_1 hfz9_2 hfz9_3 hfz9_4 hfz9_5); (try clear hx177_0); (try clear hx177_1); (try clear hx179_0); (try clear hx179_1); (try clear p177); (try clear p179); (try clear q177); (try clear q179)
            obtain ⟨kq, x66_34, rfl, HA, HJ34, BK175, BK178, HB⟩ := hcut
            cases kq with
            | zero => exact absurd HA.out (by simp [spec_BufOk.j3])
            | succ kj34 =>
             have H := HA.out
             clear HA
             simp only [spec_BufOk.j3] at H
             by_cases c42 : x66_34 = true
             ·subst c42
              have H1 : (some false) = some r := by rw [if_pos rfl] at H; exact H
              clear H
              have H := H1
              clear H1
              obtain rfl := Option.some.inj H
              go_wp2
              repeat (go_quiet (fail); try go_wp2)
              go_ret
              exact ⟨by first | rfl | (simp [errW_none, errW_some] <;> rfl) | (simp [*, errW_none, errW_some] <;> rfl), bf_ HB⟩
             ·replace c42 := Bool.eq_false_iff.mpr c42
              subst c42
              have H1 : (spec_BufOk.l1 kj34 x3_2 0 a0_0 a0_1 a0_2 a0_3 a0_4 l0_5 ((rd_T80 l0_5 x3_2).f0) ((rd_T80 l0_5 x3_2).f1)) = some r := by rw [if_neg (show ¬ (false = true) by decide)] at H; exact H
              clear H
              have H := H1
              clear H1
              have H' := Aside0.mk H
              clear H
              go_wp2
              repeat (go_quiet (fail); try go_wp2)
              go_loopg [5] kj34 (fun kq v5 w' => ∃ (x5_5 : Int), v5 = .int .i64 x5_5 ∧ Aside0 (spec_BufOk.l1 kq x3_2 x5_5 a0_0 a0_1 a0_2 a0_3 a0_4 l0_5 ((rd_T80 l0_5 x3_2).f0) ((rd_T80 l0_5 x3_2).f1) = some r) ∧ Aside0 (kq ≤ kj34) ∧ Aside0 (w'.heap[gb175]? = some (.cells #[.int .i64 a0_0, .int .i64 a0_1, .int .i64 a0_2, .int .i64 a0_3, .bool a0_4, (.slice (some ad177) l0_5.length c0_5)] 47 (0, 0))) ∧ Aside0 (w'.heap[gb178]? = some (.cells #[.int .i64 ((rd_T80 l0_5 x3_2).f0), (.slice A177_1 ((rd_T80 l0_5 x3_2).f1).length c177_1)] 80 (0, 0))) ∧ Aside0 (Below w.heap.size w w'))
              case atStart => exact ⟨(0), (by first | rfl | (simp; done) | (simp [*]; done)), H', ⟨Nat.le_refl _⟩, ⟨bk_ BK175⟩, ⟨bk_ BK178⟩, ⟨bf_ HB⟩⟩
              case round =>
               clear H'
               (try clear c1); (try clear p1 p1); (try clear q1 q1); (try clear hx1); (try clear c2); (try clear p2 p2); (try clear c3); (try clear c4); (try clear c5); (try clear p6 p6); (try clear c11); (try clear c12); (try clear c12b0); (try clear c13); (try clear c13b0); (try clear c17); (try clear p17 p17); (try clear q17 q17); (try clear hx17); (try clear c19); (try clear c19b0); (try clear c20); (try clear c22); (try clear c22b0); (try clear c23); (try clear c25); (try clear c25b0); (try clear c27); (try clear c27b0); (try clear c28); (try clear c28b0); (try clear c29); (try clear c32); (try clear c34); (try clear c36); (try clear c36b0); (try clear c36b1); (try clear c37); (try clear c39); (try clear c42); (try clear hcz15_0 hcz15_1 hcz15_2 hcz15_3 hcz15_4 hcz15_5 hfz15_0 hfz15_1 hfz15_2 hfz15_3 hfz15_4 hfz15_5); (try clear hcz18_0 hcz18_1 hfz18_0 hfz18_1); (try clear hcz21_0 hcz21_1 hfz21_0 hfz21_1); (try clear hcz24_0 hcz24_1 hfz24_0 hfz24_1); (try clear hcz30_0 hcz30_1 hfz30_0 hfz30_1); (try clear hcz31_0 hcz31_1 hcz31_2 hcz31_3 hcz31_4 hcz31_5 hfz31_0 hfz31_1 hfz31_2 hfz31_3 hfz31_4 hfz31_5); (try clear hcz33_0 hcz33_1 hfz33_0 hfz33_1); (try clear hcz38_0 hcz38_1 hfz38_0 hfz38_1); (try clear hcz40_0 hcz40_1 hfz40_0 hfz40_1); (try clear hcz41_0 hcz41_1 hcz41_2 hcz41_3 hcz41_4 hcz41_5 hfz41_0 hfz41_1 hfz41_2 hfz41_3 hfz41_4 hfz41_5); (try clear hcz6_0 hcz6_1 hcz6_2 hcz6_3 hcz6_4 hcz6_5 hfz6_0 hfz6_1 hfz6_2 hfz6_3 hfz6_4 hfz6_5); (try clear hcz8_0 hcz8_1 hcz8_2 hcz8_3 hcz8_4 hcz8_5 hfz8_0 hfz8_1 hfz8_2 hfz8_3 hfz8_4 hfz8_5); (try clear hcz9_0 hcz9_1 hcz9_2 hcz9_3 hcz9_4 hcz9_5 hfz9_0 hfz9_1 hfz9_2 hfz9_3 hfz9_4 hfz9_5); (try clear hx177_0); (try clear hx177_1); (try clear hx179_0); (try clear hx179_1); (try clear p177); (try clear p179); (try clear q177); (try clear q179)
               obtain ⟨x5_5, rfl, HA, HK5, BK175, BK178, HB⟩ := hrel
               cases gk with
               | zero => exact absurd HA.out (by simp [spec_BufOk.l1])
               | succ k5 =>
                have H := HA.out
                clear HA
                simp only [spec_BufOk.l1] at H
                by_cases c43 : x5_5 < (((rd_T80 l0_5 x3_2).f1).length : Int)
                ·rw [if_pos c43] at H
                 have c43b0 : decide (x5_5 < (((rd_T80 l0_5 x3_2).f1).length : Int)) = true := decide_eq_true c43
                 clear c43
                 by_cases c44 : 0 ≤ x5_5
                 ·rw [if_pos c44] at H
                  have c44b0 : decide (0 ≤ x5_5) = true := decide_eq_true c44
                  clear c44
                  replace H := Option.bind_eq_some_iff.mp H
                  obtain ⟨t181, A450, H⟩ := H
                  replace H : (if t181 = true then (spec_BufOk.l1 k5 x3_2 (wrap64 (x5_5 + 1)) a0_0 a0_1 a0_2 a0_3 a0_4 l0_5 ((rd_T80 l0_5 x3_2).f0) ((rd_T80 l0_5 x3_2).f1)) else (some false)) = some r := H
                  have A45 := Aside0.mk A450
                  clear A450
                  by_cases c46 : t181 = true
                  ·subst c46
                   have H1 : (spec_BufOk.l1 k5 x3_2 (wrap64 (x5_5 + 1)) a0_0 a0_1 a0_2 a0_3 a0_4 l0_5 ((rd_T80 l0_5 x3_2).f0) ((rd_T80 l0_5 x3_2).f1)) = some r := by rw [if_pos rfl] at H; exact H
                   clear H
                   have H := H1
                   clear H1
                   have H' := Aside0.mk H
                   clear H; have hnb47 := NB178_175.out; have hnc47 := NB175_178.out
                   have hcz48_0 : wr.cell? ⟨gb178, 0, none⟩ = some (.int .i64 ((rd_T80 l0_5 x3_2).f0)) := (blk_cell BK178.out 0).trans rfl
                   have hcz48_1 : wr.cell? ⟨gb178, 1, none⟩ = some (.slice A177_1 ((rd_T80 l0_5 x3_2).f1).length c177_1) := (blk_cell BK178.out 1).trans rfl
                   have hfz48_0 := blk_frozen BK178.out 0; have hfz48_1 := blk_frozen BK178.out 1
                   have p180 : 0 ≤ (x5_5 : Int) := of_decide_eq_true (by first | (with_reducible assumption) | assumption)
                   have q180 : x5_5 < (((rd_T80 l0_5 x3_2).f1).length : Int) := of_decide_eq_true (by first | (with_reducible assumption) | assumption)
                   obtain ⟨ad180, e180, hx180_0, hx180_1⟩ := at_T52 HR177_1.out x5_5 p180 q180
                   cases e180
                   replace hx180_0 := (HB.out.cell (World.block_lt_of_cell? w _ hx180_0)).trans hx180_0
                   replace hx180_1 := (HB.out.cell (World.block_lt_of_cell? w _ hx180_1)).trans hx180_1
                   replace p180 := eq_true p180
                   replace q180 := eq_true q180
                   go_wp2_with (first | (go_at_call 71; (with_reducible refine (spec_l17HeldOk.calls ((rd_T52 ((rd_T80 l0_5 x3_2).f1) x5_5).f0) ((rd_T52 ((rd_T80 l0_5 x3_2).f1) x5_5).f1) true _ A45.out).mono ?_); rintro e w49 ⟨rfl, hb⟩; have n0_ := bb_ BK175 hb; have n1_ := bb_ BK178 hb; have n2_ := Aside0.mk (below_step (bf_ HB) hb); clear BK175; clear BK178; clear HB; have BK175 := n0_; have BK178 := n1_; have HB := n2_; clear n0_ n1_ n2_; (try clear hb); (try clear hb2); (try clear hk); (try clear hi)))
                   repeat (go_quiet (first | (go_at_call 71; (with_reducible refine (spec_l17HeldOk.calls ((rd_T52 ((rd_T80 l0_5 x3_2).f1) x5_5).f0) ((rd_T52 ((rd_T80 l0_5 x3_2).f1) x5_5).f1) true _ A45.out).mono ?_); rintro e w49 ⟨rfl, hb⟩; have n0_ := bb_ BK175 hb; have n1_ := bb_ BK178 hb; have n2_ := Aside0.mk (below_step (bf_ HB) hb); clear BK175; clear BK178; clear HB; have BK175 := n0_; have BK178 := n1_; have HB := n2_; clear n0_ n1_ n2_; (try clear hb); (try clear hb2); (try clear hk); (try clear hi))); try go_wp2_with (first | (go_at_call 71; (with_reducible refine (spec_l17HeldOk.calls ((rd_T52 ((rd_T80 l0_5 x3_2).f1) x5_5).f0) ((rd_T52 ((rd_T80 l0_5 x3_2).f1) x5_5).f1) true _ A45.out).mono ?_); rintro e w49 ⟨rfl, hb⟩; have n0_ := bb_ BK175 hb; have n1_ := bb_ BK178 hb; have n2_ := Aside0.mk (below_step (bf_ HB) hb); clear BK175; clear BK178; clear HB; have BK175 := n0_; have BK178 := n1_; have HB := n2_; clear n0_ n1_ n2_; (try clear hb); (try clear hb2); (try clear hk); (try clear hi))))
                   go_roundg k5
                   case measure => have := HJ1.out; have := HK2.out; have := HJ13.out; have := HJ34.out; have := HK5.out; omega
                   case rel => exact ⟨(wrap64 (x5_5 + 1)), (by first | rfl | (simp; done) | (simp [*]; done)), H', ⟨by have := HJ1.out; have := HK2.out; have := HJ13.out; have := HJ34.out; have := HK5.out; omega⟩, ⟨bk_ BK175⟩, ⟨bk_ BK178⟩, ⟨bf_ HB⟩⟩
                  ·replace c46 := Bool.eq_false_iff.mpr c46
                   subst c46
                   have H1 : (some false) = some r := by rw [if_neg (show ¬ (false = true) by decide)] at H; exact H
                   clear H
                   have H := H1
                   clear H1
                   obtain rfl := Option.some.inj H
                   have hnb50 := NB178_175.out; have hnc50 := NB175_178.out
                   have hcz51_0 : wr.cell? ⟨gb178, 0, none⟩ = some (.int .i64 ((rd_T80 l0_5 x3_2).f0)) := (blk_cell BK178.out 0).trans rfl
                   have hcz51_1 : wr.cell? ⟨gb178, 1, none⟩ = some (.slice A177_1 ((rd_T80 l0_5 x3_2).f1).length c177_1) := (blk_cell BK178.out 1).trans rfl
                   have hfz51_0 := blk_frozen BK178.out 0; have hfz51_1 := blk_frozen BK178.out 1
                   have p180 : 0 ≤ (x5_5 : Int) := of_decide_eq_true (by first | (with_reducible assumption) | assumption)
                   have q180 : x5_5 < (((rd_T80 l0_5 x3_2).f1).length : Int) := of_decide_eq_true (by first | (with_reducible assumption) | assumption)
                   obtain ⟨ad180, e180, hx180_0, hx180_1⟩ := at_T52 HR177_1.out x5_5 p180 q180
                   cases e180
                   replace hx180_0 := (HB.out.cell (World.block_lt_of_cell? w _ hx180_0)).trans hx180_0
                   replace hx180_1 := (HB.out.cell (World.block_lt_of_cell? w _ hx180_1)).trans hx180_1
                   replace p180 := eq_true p180
                   replace q180 := eq_true q180
                   go_wp2_with (first | (go_at_call 71; (with_reducible refine (spec_l17HeldOk.calls ((rd_T52 ((rd_T80 l0_5 x3_2).f1) x5_5).f0) ((rd_T52 ((rd_T80 l0_5 x3_2).f1) x5_5).f1) false _ A45.out).mono ?_); rintro e w52 ⟨rfl, hb⟩; have n0_ := bb_ BK175 hb; have n1_ := bb_ BK178 hb; have n2_ := Aside0.mk (below_step (bf_ HB) hb); clear BK175; clear BK178; clear HB; have BK175 := n0_; have BK178 := n1_; have HB := n2_; clear n0_ n1_ n2_; (try clear hb); (try clear hb2); (try clear hk); (try clear hi)))
                   repeat (go_quiet (first | (go_at_call 71; (with_reducible refine (spec_l17HeldOk.calls ((rd_T52 ((rd_T80 l0_5 x3_2).f1) x5_5).f0) ((rd_T52 ((rd_T80 l0_5 x3_2).f1) x5_5).f1) false _ A45.out).mono ?_); rintro e w52 ⟨rfl, hb⟩; have n0_ := bb_ BK175 hb; have n1_ := bb_ BK178 hb; have n2_ := Aside0.mk (below_step (bf_ HB) hb); clear BK175; clear BK178; clear HB; have BK175 := n0_; have BK178 := n1_; have HB := n2_; clear n0_ n1_ n2_; (try clear hb); (try clear hb2); (try clear hk); (try clear hi))); try go_wp2_with (first | (go_at_call 71; (with_reducible refine (spec_l17HeldOk.calls ((rd_T52 ((rd_T80 l0_5 x3_2).f1) x5_5).f0) ((rd_T52 ((rd_T80 l0_5 x3_2).f1) x5_5).f1) false _ A45.out).mono ?_); rintro e w52 ⟨rfl, hb⟩; have n0_ := bb_ BK175 hb; have n1_ := bb_ BK178 hb; have n2_ := Aside0.mk (below_step (bf_ HB) hb); clear BK175; clear BK178; clear HB; have BK175 := n0_; have BK178 := n1_; have HB := n2_; clear n0_ n1_ n2_; (try clear hb); (try clear hb2); (try clear hk); (try clear hi))))
                   go_ret
                   exact ⟨by first | rfl | (simp [errW_none, errW_some] <;> rfl) | (simp [*, errW_none, errW_some] <;> rfl), bf_ HB⟩
                 ·rw [if_neg c44] at H
                  exact absurd H (by simp)
                ·rw [if_neg c43] at H
                 have c43b0 : decide (x5_5 < (((rd_T80 l0_5 x3_2).f1).length : Int)) = false := decide_eq_false c43
                 clear c43
                 replace H := Option.bind_eq_some_iff.mp H
                 obtain ⟨t182, A530, H⟩ := H
                 replace H : (if t182 > a0_1 then (some false) else (spec_BufOk.l0 k5 (wrap64 (x3_2 + 1)) a0_0 a0_1 a0_2 a0_3 a0_4 l0_5)) = some r := H
                 have A53 := Aside0.mk A530
                 clear A530
                 by_cases c54 : t182 > a0_1
                 ·rw [if_pos c54] at H
                  have c54b0 : decide (a0_1 < t182) = true := decide_eq_true c54
                  clear c54
                  obtain rfl := Option.some.inj H
                  have hnb55 := NB178_175.out; have hnc55 := NB175_178.out
                  have hcz56_0 : wr.cell? ⟨gb178, 0, none⟩ = some (.int .i64 ((rd_T80 l0_5 x3_2).f0)) := (blk_cell BK178.out 0).trans rfl
                  have hcz56_1 : wr.cell? ⟨gb178, 1, none⟩ = some (.slice A177_1 ((rd_T80 l0_5 x3_2).f1).length c177_1) := (blk_cell BK178.out 1).trans rfl
                  have hfz56_0 := blk_frozen BK178.out 0; have hfz56_1 := blk_frozen BK178.out 1
                  go_wp2_with (first | (go_at_call 75; (with_reducible refine (spec_l17Bytes.calls k5 _ _ ((rd_T80 l0_5 x3_2).f1) t182 _ ?side1 ?side2 A53.out).mono ?_); (case side1 => repeat (first | exact (Kd.C_below HR177_1.out HB.out) | (with_reducible refine Kd.C_alloc ?_ _) | (with_reducible refine Kd.C_drewN ?_ _) | (with_reducible refine Kd.C_drew ?_))); (case side2 => exact HC177_1.out); rintro e w' ⟨rfl, ⟨nd, rfl⟩⟩; (try first | exact ⟨rfl, _, World.drewN_drewN _ _ _⟩ | exact ⟨rfl, _, Eq.trans (World.drewN_drewN _ _ _) (congrArg (World.drewN _) (Nat.add_assoc _ _ _))⟩); have hcz57_0 := bc_ BK175 0 (.int .i64 a0_0) rfl; have hcz57_1 := bc_ BK175 1 (.int .i64 a0_1) rfl; have hcz57_2 := bc_ BK175 2 (.int .i64 a0_2) rfl; have hcz57_3 := bc_ BK175 3 (.int .i64 a0_3) rfl; have hcz57_4 := bc_ BK175 4 (.bool a0_4) rfl; have hcz57_5 := bc_ BK175 5 (.slice (some ad177) l0_5.length c0_5) rfl; have hfz57_0 := blk_frozen BK175.out 0; have hfz57_1 := blk_frozen BK175.out 1; have hfz57_2 := blk_frozen BK175.out 2; have hfz57_3 := blk_frozen BK175.out 3; have hfz57_4 := blk_frozen BK175.out 4; have hfz57_5 := blk_frozen BK175.out 5))
                  repeat (go_quiet (first | (go_at_call 75; (with_reducible refine (spec_l17Bytes.calls k5 _ _ ((rd_T80 l0_5 x3_2).f1) t182 _ ?side1 ?side2 A53.out).mono ?_); (case side1 => repeat (first | exact (Kd.C_below HR177_1.out HB.out) | (with_reducible refine Kd.C_alloc ?_ _) | (with_reducible refine Kd.C_drewN ?_ _) | (with_reducible refine Kd.C_drew ?_))); (case side2 => exact HC177_1.out); rintro e w' ⟨rfl, ⟨nd, rfl⟩⟩; (try first | exact ⟨rfl, _, World.drewN_drewN _ _ _⟩ | exact ⟨rfl, _, Eq.trans (World.drewN_drewN _ _ _) (congrArg (World.drewN _) (Nat.add_assoc _ _ _))⟩); have hcz57_0 := bc_ BK175 0 (.int .i64 a0_0) rfl; have hcz57_1 := bc_ BK175 1 (.int .i64 a0_1) rfl; have hcz57_2 := bc_ BK175 2 (.int .i64 a0_2) rfl; have hcz57_3 := bc_ BK175 3 (.int .i64 a0_3) rfl; have hcz57_4 := bc_ BK175 4 (.bool a0_4) rfl; have hcz57_5 := bc_ BK175 5 (.slice (some ad177) l0_5.length c0_5) rfl; have hfz57_0 := blk_frozen BK175.out 0; have hfz57_1 := blk_frozen BK175.out 1; have hfz57_2 := blk_frozen BK175.out 2; have hfz57_3 := blk_frozen BK175.out 3; have hfz57_4 := blk_frozen BK175.out 4; have hfz57_5 := blk_frozen BK175.out 5)); try go_wp2_with (first | (go_at_call 75; (with_reducible refine (spec_l17Bytes.calls k5 _ _ ((rd_T80 l0_5 x3_2).f1) t182 _ ?side1 ?side2 A53.out).mono ?_); (case side1 => repeat (first | exact (Kd.C_below HR177_1.out HB.out) | (with_reducible refine Kd.C_alloc ?_ _) | (with_reducible refine Kd.C_drewN ?_ _) | (with_reducible refine Kd.C_drew ?_))); (case side2 => exact HC177_1.out); rintro e w' ⟨rfl, ⟨nd, rfl⟩⟩; (try first | exact ⟨rfl, _, World.drewN_drewN _ _ _⟩ | exact ⟨rfl, _, Eq.trans (World.drewN_drewN _ _ _) (congrArg (World.drewN _) (Nat.add_assoc _ _ _))⟩); have hcz57_0 := bc_ BK175 0 (.int .i64 a0_0) rfl; have hcz57_1 := bc_ BK175 1 (.int .i64 a0_1) rfl; have hcz57_2 := bc_ BK175 2 (.int .i64 a0_2) rfl; have hcz57_3 := bc_ BK175 3 (.int .i64 a0_3) rfl; have hcz57_4 := bc_ BK175 4 (.bool a0_4) rfl; have hcz57_5 := bc_ BK175 5 (.slice (some ad177) l0_5.length c0_5) rfl; have hfz57_0 := blk_frozen BK175.out 0; have hfz57_1 := blk_frozen BK175.out 1; have hfz57_2 := blk_frozen BK175.out 2; have hfz57_3 := blk_frozen BK175.out 3; have hfz57_4 := blk_frozen BK175.out 4; have hfz57_5 := blk_frozen BK175.out 5)))
                  go_ret
                  exact ⟨by first | rfl | (simp [errW_none, errW_some] <;> rfl) | (simp [*, errW_none, errW_some] <;> rfl), bf_ HB⟩
                 ·rw [if_neg c54] at H
                  have c54b0 : decide (a0_1 < t182) = false := decide_eq_false c54
                  clear c54
                  have H' := Aside0.mk H
                  clear H; have hnb58 := NB178_175.out; have hnc58 := NB175_178.out
                  have hcz59_0 : wr.cell? ⟨gb178, 0, none⟩ = some (.int .i64 ((rd_T80 l0_5 x3_2).f0)) := (blk_cell BK178.out 0).trans rfl
                  have hcz59_1 : wr.cell? ⟨gb178, 1, none⟩ = some (.slice A177_1 ((rd_T80 l0_5 x3_2).f1).length c177_1) := (blk_cell BK178.out 1).trans rfl
                  have hfz59_0 := blk_frozen BK178.out 0; have hfz59_1 := blk_frozen BK178.out 1
                  go_wp2_with (first | (go_at_call 75; (with_reducible refine (spec_l17Bytes.calls k5 _ _ ((rd_T80 l0_5 x3_2).f1) t182 _ ?side1 ?side2 A53.out).mono ?_); (case side1 => repeat (first | exact (Kd.C_below HR177_1.out HB.out) | (with_reducible refine Kd.C_alloc ?_ _) | (with_reducible refine Kd.C_drewN ?_ _) | (with_reducible refine Kd.C_drew ?_))); (case side2 => exact HC177_1.out); rintro e w' ⟨rfl, ⟨nd, rfl⟩⟩; (try first | exact ⟨rfl, _, World.drewN_drewN _ _ _⟩ | exact ⟨rfl, _, Eq.trans (World.drewN_drewN _ _ _) (congrArg (World.drewN _) (Nat.add_assoc _ _ _))⟩); have hcz60_0 := bc_ BK175 0 (.int .i64 a0_0) rfl; have hcz60_1 := bc_ BK175 1 (.int .i64 a0_1) rfl; have hcz60_2 := bc_ BK175 2 (.int .i64 a0_2) rfl; have hcz60_3 := bc_ BK175 3 (.int .i64 a0_3) rfl; have hcz60_4 := bc_ BK175 4 (.bool a0_4) rfl; have hcz60_5 := bc_ BK175 5 (.slice (some ad177) l0_5.length c0_5) rfl; have hfz60_0 := blk_frozen BK175.out 0; have hfz60_1 := blk_frozen BK175.out 1; have hfz60_2 := blk_frozen BK175.out 2; have hfz60_3 := blk_frozen BK175.out 3; have hfz60_4 := blk_frozen BK175.out 4; have hfz60_5 := blk_frozen BK175.out 5))
                  repeat (go_quiet (first | (go_at_call 75; (with_reducible refine (spec_l17Bytes.calls k5 _ _ ((rd_T80 l0_5 x3_2).f1) t182 _ ?side1 ?side2 A53.out).mono ?_); (case side1 => repeat (first | exact (Kd.C_below HR177_1.out HB.out) | (with_reducible refine Kd.C_alloc ?_ _) | (with_reducible refine Kd.C_drewN ?_ _) | (with_reducible refine Kd.C_drew ?_))); (case side2 => exact HC177_1.out); rintro e w' ⟨rfl, ⟨nd, rfl⟩⟩; (try first | exact ⟨rfl, _, World.drewN_drewN _ _ _⟩ | exact ⟨rfl, _, Eq.trans (World.drewN_drewN _ _ _) (congrArg (World.drewN _) (Nat.add_assoc _ _ _))⟩); have hcz60_0 := bc_ BK175 0 (.int .i64 a0_0) rfl; have hcz60_1 := bc_ BK175 1 (.int .i64 a0_1) rfl; have hcz60_2 := bc_ BK175 2 (.int .i64 a0_2) rfl; have hcz60_3 := bc_ BK175 3 (.int .i64 a0_3) rfl; have hcz60_4 := bc_ BK175 4 (.bool a0_4) rfl; have hcz60_5 := bc_ BK175 5 (.slice (some ad177) l0_5.length c0_5) rfl; have hfz60_0 := blk_frozen BK175.out 0; have hfz60_1 := blk_frozen BK175.out 1; have hfz60_2 := blk_frozen BK175.out 2; have hfz60_3 := blk_frozen BK175.out 3; have hfz60_4 := blk_frozen BK175.out 4; have hfz60_5 := blk_frozen BK175.out 5)); try go_wp2_with (first | (go_at_call 75; (with_reducible refine (spec_l17Bytes.calls k5 _ _ ((rd_T80 l0_5 x3_2).f1) t182 _ ?side1 ?side2 A53.out).mono ?_); (case side1 => repeat (first | exact (Kd.C_below HR177_1.out HB.out) | (with_reducible refine Kd.C_alloc ?_ _) | (with_reducible refine Kd.C_drewN ?_ _) | (with_reducible refine Kd.C_drew ?_))); (case side2 => exact HC177_1.out); rintro e w' ⟨rfl, ⟨nd, rfl⟩⟩; (try first | exact ⟨rfl, _, World.drewN_drewN _ _ _⟩ | exact ⟨rfl, _, Eq.trans (World.drewN_drewN _ _ _) (congrArg (World.drewN _) (Nat.add_assoc _ _ _))⟩); have hcz60_0 := bc_ BK175 0 (.int .i64 a0_0) rfl; have hcz60_1 := bc_ BK175 1 (.int .i64 a0_1) rfl; have hcz60_2 := bc_ BK175 2 (.int .i64 a0_2) rfl; have hcz60_3 := bc_ BK175 3 (.int .i64 a0_3) rfl; have hcz60_4 := bc_ BK175 4 (.bool a0_4) rfl; have hcz60_5 := bc_ BK175 5 (.slice (some ad177) l0_5.length c0_5) rfl; have hfz60_0 := blk_frozen BK175.out 0; have hfz60_1 := blk_frozen BK175.out 1; have hfz60_2 := blk_frozen BK175.out 2; have hfz60_3 := blk_frozen BK175.out 3; have hfz60_4 := blk_frozen BK175.out 4; have hfz60_5 := blk_frozen BK175.out 5)))
                  go_roundg k5
                  case measure => have := HJ1.out; have := HK2.out; have := HJ13.out; have := HJ34.out; have := HK5.out; omega
                  case rel => exact ⟨(wrap64 (x3_2 + 1)), (by first | rfl | (simp; done) | (simp [*]; done)), H', ⟨by have := HJ1.out; have := HK2.out; have := HJ13.out; have := HJ34.out; have := HK5.out; omega⟩, ⟨bk_ BK175⟩, ⟨bf_ HB⟩⟩
       ·rw [if_neg c13] at H
        exact absurd H (by simp)
      ·rw [if_neg c12] at H
       have c12b0 : decide (x3_2 < (l0_5.length : Int)) = false := decide_eq_false c12
       clear c12
       replace H := Option.bind_eq_some_iff.mp H
       obtain ⟨t183, A610, H⟩ := H
       replace H : (spec_BufOk.l2 k2 t183 0 a0_0 a0_1 a0_2 a0_3 a0_4 l0_5) = some r := H
       have A61 := Aside0.mk A610
       clear A610
       have H' := Aside0.mk H
       clear H; have hcz62_0 := bc_ BK175 0 (.int .i64 a0_0) rfl; have hcz62_1 := bc_ BK175 1 (.int .i64 a0_1) rfl; have hcz62_2 := bc_ BK175 2 (.int .i64 a0_2) rfl; have hcz62_3 := bc_ BK175 3 (.int .i64 a0_3) rfl; have hcz62_4 := bc_ BK175 4 (.bool a0_4) rfl; have hcz62_5 := bc_ BK175 5 (.slice A0_5 l0_5.length c0_5) rfl; have hfz62_0 := blk_frozen BK175.out 0; have hfz62_1 := blk_frozen BK175.out 1; have hfz62_2 := blk_frozen BK175.out 2; have hfz62_3 := blk_frozen BK175.out 3; have hfz62_4 := blk_frozen BK175.out 4; have hfz62_5 := blk_frozen BK175.out 5
       go_wp2_with (first | (go_at_call 73; (with_reducible refine (spec_l17All.calls k2 a0_0 a0_1 a0_2 a0_3 a0_4 _ _ l0_5 t183 _ ?side1 ?side2 A61.out).mono ?_); (case side1 => repeat (first | exact (Kd.C_below HR0_5.out HB.out) | (with_reducible refine Kd.C_alloc ?_ _) | (with_reducible refine Kd.C_drewN ?_ _) | (with_reducible refine Kd.C_drew ?_))); (case side2 => exact HC0_5.out); rintro e w63 ⟨v184, rfl, ho0, hb⟩; have n0_ := Aside0.mk (Kd.R_lower ho0 (below_size (bf_ HB))); have n1_ := bb_ BK175 hb; have n2_ := Aside0.mk (below_step (bf_ HB) hb); clear BK175; clear HB; have HO185 := n0_; have BK175 := n1_; have HB := n2_; clear n0_ n1_ n2_; (try clear hb); (try clear hb2); (try clear hk); (try clear hi); (try clear ho0)))
       repeat (go_quiet (first | (go_at_call 73; (with_reducible refine (spec_l17All.calls k2 a0_0 a0_1 a0_2 a0_3 a0_4 _ _ l0_5 t183 _ ?side1 ?side2 A61.out).mono ?_); (case side1 => repeat (first | exact (Kd.C_below HR0_5.out HB.out) | (with_reducible refine Kd.C_alloc ?_ _) | (with_reducible refine Kd.C_drewN ?_ _) | (with_reducible refine Kd.C_drew ?_))); (case side2 => exact HC0_5.out); rintro e w63 ⟨v184, rfl, ho0, hb⟩; have n0_ := Aside0.mk (Kd.R_lower ho0 (below_size (bf_ HB))); have n1_ := bb_ BK175 hb; have n2_ := Aside0.mk (below_step (bf_ HB) hb); clear BK175; clear HB; have HO185 := n0_; have BK175 := n1_; have HB := n2_; clear n0_ n1_ n2_; (try clear hb); (try clear hb2); (try clear hk); (try clear hi); (try clear ho0))); try go_wp2_with (first | (go_at_call 73; (with_reducible refine (spec_l17All.calls k2 a0_0 a0_1 a0_2 a0_3 a0_4 _ _ l0_5 t183 _ ?side1 ?side2 A61.out).mono ?_); (case side1 => repeat (first | exact (Kd.C_below HR0_5.out HB.out) | (with_reducible refine Kd.C_alloc ?_ _) | (with_reducible refine Kd.C_drewN ?_ _) | (with_reducible refine Kd.C_drew ?_))); (case side2 => exact HC0_5.out); rintro e w63 ⟨v184, rfl, ho0, hb⟩; have n0_ := Aside0.mk (Kd.R_lower ho0 (below_size (bf_ HB))); have n1_ := bb_ BK175 hb; have n2_ := Aside0.mk (below_step (bf_ HB) hb); clear BK175; clear HB; have HO185 := n0_; have BK175 := n1_; have HB := n2_; clear n0_ n1_ n2_; (try clear hb); (try clear hb2); (try clear hk); (try clear hi); (try clear ho0))))
       go_loopg [7] k2 (fun kq v7 w' => ∃ (x7_3 : Int), v7 = .int .i64 x7_3 ∧ Aside0 (spec_BufOk.l2 kq t183 x7_3 a0_0 a0_1 a0_2 a0_3 a0_4 l0_5 = some r) ∧ Aside0 (kq ≤ k2) ∧ Aside0 (Kd.R k52 52 w' w.heap.size (fun _ => True) v184 t183) ∧ Aside0 (w'.heap[gb175]? = some (.cells #[.int .i64 a0_0, .int .i64 a0_1, .int .i64 a0_2, .int .i64 a0_3, .bool a0_4, (.slice A0_5 l0_5.length c0_5)] 47 (0, 0))) ∧ Aside0 (Below w.heap.size w w'))
       case atStart => exact ⟨(0), (by first | rfl | (simp; done) | (simp [*]; done)), H', ⟨Nat.le_refl _⟩, ⟨kr_ HO185⟩, ⟨bk_ BK175⟩, ⟨bf_ HB⟩⟩
       case round =>
        clear H'
        (try clear c1); (try clear p1 p1); (try clear q1 q1); (try clear hx1); (try clear c2); (try clear p2 p2); (try clear c3); (try clear c4); (try clear c5); (try clear p6 p6); (try clear c11); (try clear c12); (try clear c12b0); (try clear c13); (try clear c13b0); (try clear c17); (try clear p17 p17); (try clear q17 q17); (try clear hx17); (try clear p18); (try clear q18); (try clear hx18); (try clear c19); (try clear c19b0); (try clear c20); (try clear c22); (try clear c22b0); (try clear c23); (try clear c25); (try clear c25b0); (try clear c27); (try clear c27b0); (try clear c28); (try clear c28b0); (try clear c29); (try clear c32); (try clear c34); (try clear c36); (try clear c36b0); (try clear c36b1); (try clear c37); (try clear c39); (try clear c42); (try clear c43); (try clear c43b0); (try clear c44); (try clear c44b0); (try clear c46); (try clear c47); (try clear c50); (try clear c54); (try clear c54b0); (try clear c55); (try clear c58); (try clear hcz15_0 hcz15_1 hcz15_2 hcz15_3 hcz15_4 hcz15_5 hfz15_0 hfz15_1 hfz15_2 hfz15_3 hfz15_4 hfz15_5); (try clear hcz18_0 hcz18_1 hfz18_0 hfz18_1); (try clear hcz21_0 hcz21_1 hfz21_0 hfz21_1); (try clear hcz24_0 hcz24_1 hfz24_0 hfz24_1); (try clear hcz30_0 hcz30_1 hfz30_0 hfz30_1); (try clear hcz31_0 hcz31_1 hcz31_2 hcz31_3 hcz31_4 hcz31_5 hfz31_0 hfz31_1 hfz31_2 hfz31_3 hfz31_4 hfz31_5); (try clear hcz33_0 hcz33_1 hfz33_0 hfz33_1); (try clear hcz38_0 hcz38_1 hfz38_0 hfz38_1); (try clear hcz40_0 hcz40_1 hfz40_0 hfz40_1); (try clear hcz41_0 hcz41_1 hcz41_2 hcz41_3 hcz41_4 hcz41_5 hfz41_0 hfz41_1 hfz41_2 hfz41_3 hfz41_4 hfz41_5); (try clear hcz48_0 hcz48_1 hfz48_0 hfz48_1); (try clear hcz51_0 hcz51_1 hfz51_0 hfz51_1); (try clear hcz56_0 hcz56_1 hfz56_0 hfz56_1); (try clear hcz57_0 hcz57_1 hcz57_2 hcz57_3 hcz57_4 hcz57_5 hfz57_0 hfz57_1 hfz57_2 hfz57_3 hfz57_4 hfz57_5); (try clear hcz59_0 hcz59_1 hfz59_0 hfz59_1); (try clear hcz60_0 hcz60_1 hcz60_2 hcz60_3 hcz60_4 hcz60_5 hfz60_0 hfz60_1 hfz60_2 hfz60_3 hfz60_4 hfz60_5); (try clear hcz62_0 hcz62_1 hcz62_2 hcz62_3 hcz62_4 hcz62_5 hfz62_0 hfz62_1 hfz62_2 hfz62_3 hfz62_4 hfz62_5); (try clear hcz6_0 hcz6_1 hcz6_2 hcz6_3 hcz6_4 hcz6_5 hfz6_0 hfz6_1 hfz6_2 hfz6_3 hfz6_4 hfz6_5); (try clear hcz8_0 hcz8_1 hcz8_2 hcz8_3 hcz8_4 hcz8_5 hfz8_0 hfz8_1 hfz8_2 hfz8_3 hfz8_4 hfz8_5); (try clear hcz9_0 hcz9_1 hcz9_2 hcz9_3 hcz9_4 hcz9_5 hfz9_0 hfz9_1 hfz9_2 hfz9_3 hfz9_4 hfz9_5); (try clear hx177_0); (try clear hx177_1); (try clear hx179_0); (try clear hx179_1); (try clear hx180_0); (try clear hx180_1); (try clear p177); (try clear p179); (try clear p180); (try clear q177); (try clear q179); (try clear q180)
        obtain ⟨x7_3, rfl, HA, HK3, HO_6, BK175, HB⟩ := hrel
        cases gk with
        | zero => exact absurd HA.out (by simp [spec_BufOk.l2])
        | succ k3 =>
         have H := HA.out
         clear HA
         simp only [spec_BufOk.l2] at H
         by_cases c64 : x7_3 < (t183.length : Int)
         ·rw [if_pos c64] at H
          have c64b0 : decide (x7_3 < (t183.length : Int)) = true := decide_eq_true c64
          clear c64
          by_cases c65 : 0 ≤ x7_3
          ·rw [if_pos c65] at H
           have c65b0 := eq_true c65
           have c65b1 : decide (0 ≤ x7_3) = true := decide_eq_true c65
           clear c65
           by_cases c66 : x7_3 ≤ (t183.length : Int)
           ·rw [if_pos c66] at H
            have c66b0 := eq_true c66
            have c66b1 : decide (x7_3 ≤ (t183.length : Int)) = true := decide_eq_true c66
            clear c66
            obtain ⟨y186, hy186⟩ : ∃ y_ : List (S52), y_ = (t183.take (x7_3 : Int).toNat) := ⟨_, rfl⟩
            replace H : ((spec_l17Id.f k3 y186 ((rd_T52 t183 x7_3).f0)).bind fun t191 => (if t191 = true then (some false) else (spec_BufOk.l2 k3 t183 (wrap64 (x7_3 + 1)) a0_0 a0_1 a0_2 a0_3 a0_4 l0_5))) = some r := by first | (rw [hy186]; with_reducible exact H) | (have H2_ := (Option.bind_some _ _).symm.trans H; rw [hy186]; with_reducible exact H2_) | (have H2_ := (Option.bind_some _ _).symm.trans H; with_reducible exact H2_) | with_reducible exact H | (rw [hy186]; exact H) | exact H
            have Ny186 := Aside0.mk hy186
            clear hy186
            replace H := Option.bind_eq_some_iff.mp H
            obtain ⟨t191, A670, H⟩ := H
            replace H : (if t191 = true then (some false) else (spec_BufOk.l2 k3 t183 (wrap64 (x7_3 + 1)) a0_0 a0_1 a0_2 a0_3 a0_4 l0_5)) = some r := H
            have A67 := Aside0.mk A670
            clear A670
            by_cases c68 : t191 = true
            ·subst c68
             have H1 : (some false) = some r := by rw [if_pos rfl] at H; exact H
             clear H
             have H := H1
             clear H1
             obtain rfl := Option.some.inj H
             obtain ⟨Ao69, co69, eo69⟩ := Kd.R_slice HO_6.out
             subst eo69
             have q70 : (x7_3 : Int) ≤ ((t183.length : Int) : Int) := of_decide_eq_true (by first | (with_reducible assumption) | assumption)
             obtain ⟨i070, hi070, _, hsz70, _⟩ := info_parts info52
             have hroom70 : t183.length ≤ co69 := (Kd.R_reads' HO_6.out).2.1
             have hC70 : Kd.C k52 _ Ao69 t183.length t183 := (Kd.R_reads' HO_6.out).2.2
             have hcut70 := cut_to (P := Try.prog) 78 52 .i64 Try.underlying78 hi070 Ao69 t183.length co69 x7_3 (of_decide_eq_true (by first | (with_reducible assumption) | assumption)) q70 hroom70
             have hr70 := Kd.C_take (m := (x7_3 : Int).toNat) hC70 (by omega)
             have hy70 : y186.length = (x7_3 : Int).toNat := (by rw [Ny186.out, List.length_take]; omega)
             rw [← Ny186.out] at hr70
             rw [← hy70] at hcut70
             have HR189 := Aside0.mk hr70
             have HC189 := Aside0.mk (show y186.length ≤ co69 from by omega)
             clear hr70 hC70 hroom70 hi070 hsz70
             have KY70 := Aside0.mk hy70
             clear hy70
             have KL70 := Aside0.mk (show (x7_3 : Int).toNat ≤ t183.length from by omega)
             replace q70 := eq_true q70
             have p190 : 0 ≤ (x7_3 : Int) := of_decide_eq_true (by first | (with_reducible assumption) | assumption)
             have q190 : x7_3 < (t183.length : Int) := of_decide_eq_true (by first | (with_reducible assumption) | assumption)
             obtain ⟨ad190, e190, hx190_0, hx190_1⟩ := at_T52 (Kd.R_reads' HO_6.out).2.2 x7_3 p190 q190
             cases e190
             replace p190 := eq_true p190
             replace q190 := eq_true q190
             go_wp2_with (first | (go_at_call 72; (with_reducible refine (spec_l17Id.calls k3 _ _ y186 ((rd_T52 t183 x7_3).f0) true _ ?side1 ?side2 A67.out).mono ?_); (case side1 => repeat (first | exact (by repeat (first | (with_reducible exact HR189.out) | (with_reducible refine Kd.C_alloc ?_ _) | (with_reducible refine Kd.C_drewN ?_ _) | (with_reducible refine Kd.C_drew ?_) | exact HR189.out)) | (with_reducible refine Kd.C_alloc ?_ _) | (with_reducible refine Kd.C_drewN ?_ _) | (with_reducible refine Kd.C_drew ?_))); (case side2 => exact HC189.out); rintro e w' ⟨rfl, ⟨nd, rfl⟩⟩; (try first | exact ⟨rfl, _, World.drewN_drewN _ _ _⟩ | exact ⟨rfl, _, Eq.trans (World.drewN_drewN _ _ _) (congrArg (World.drewN _) (Nat.add_assoc _ _ _))⟩)))
             repeat (go_quiet (first | (go_at_call 72; (with_reducible refine (spec_l17Id.calls k3 _ _ y186 ((rd_T52 t183 x7_3).f0) true _ ?side1 ?side2 A67.out).mono ?_); (case side1 => repeat (first | exact (by repeat (first | (with_reducible exact HR189.out) | (with_reducible refine Kd.C_alloc ?_ _) | (with_reducible refine Kd.C_drewN ?_ _) | (with_reducible refine Kd.C_drew ?_) | exact HR189.out)) | (with_reducible refine Kd.C_alloc ?_ _) | (with_reducible refine Kd.C_drewN ?_ _) | (with_reducible refine Kd.C_drew ?_))); (case side2 => exact HC189.out); rintro e w' ⟨rfl, ⟨nd, rfl⟩⟩; (try first | exact ⟨rfl, _, World.drewN_drewN _ _ _⟩ | exact ⟨rfl, _, Eq.trans (World.drewN_drewN _ _ _) (congrArg (World.drewN _) (Nat.add_assoc _ _ _))⟩))); try go_wp2_with (first | (go_at_call 72; (with_reducible refine (spec_l17Id.calls k3 _ _ y186 ((rd_T52 t183 x7_3).f0) true _ ?side1 ?side2 A67.out).mono ?_); (case side1 => repeat (first | exact (by repeat (first | (with_reducible exact HR189.out) | (with_reducible refine Kd.C_alloc ?_ _) | (with_reducible refine Kd.C_drewN ?_ _) | (with_reducible refine Kd.C_drew ?_) | exact HR189.out)) | (with_reducible refine Kd.C_alloc ?_ _) | (with_reducible refine Kd.C_drewN ?_ _) | (with_reducible refine Kd.C_drew ?_))); (case side2 => exact HC189.out); rintro e w' ⟨rfl, ⟨nd, rfl⟩⟩; (try first | exact ⟨rfl, _, World.drewN_drewN _ _ _⟩ | exact ⟨rfl, _, Eq.trans (World.drewN_drewN _ _ _) (congrArg (World.drewN _) (Nat.add_assoc _ _ _))⟩))))
             go_ret
             exact ⟨by first | rfl | (simp [errW_none, errW_some] <;> rfl) | (simp [*, errW_none, errW_some] <;> rfl), bf_ HB⟩
            ·replace c68 := Bool.eq_false_iff.mpr c68
             subst c68
             have H1 : (spec_BufOk.l2 k3 t183 (wrap64 (x7_3 + 1)) a0_0 a0_1 a0_2 a0_3 a0_4 l0_5) = some r := by rw [if_neg (show ¬ (false = true) by decide)] at H; exact H
             clear H
             have H := H1
             clear H1
             have H' := Aside0.mk H
             clear H
             obtain ⟨Ao71, co71, eo71⟩ := Kd.R_slice HO_6.out
             subst eo71
             have q72 : (x7_3 : Int) ≤ ((t183.length : Int) : Int) := of_decide_eq_true (by first | (with_reducible assumption) | assumption)
             obtain ⟨i072, hi072, _, hsz72, _⟩ := info_parts info52
             have hroom72 : t183.length ≤ co71 := (Kd.R_reads' HO_6.out).2.1
             have hC72 : Kd.C k52 _ Ao71 t183.length t183 := (Kd.R_reads' HO_6.out).2.2
             have hcut72 := cut_to (P := Try.prog) 78 52 .i64 Try.underlying78 hi072 Ao71 t183.length co71 x7_3 (of_decide_eq_true (by first | (with_reducible assumption) | assumption)) q72 hroom72
             have hr72 := Kd.C_take (m := (x7_3 : Int).toNat) hC72 (by omega)
             have hy72 : y186.length = (x7_3 : Int).toNat := (by rw [Ny186.out, List.length_take]; omega)
             rw [← Ny186.out] at hr72
             rw [← hy72] at hcut72
             have HR189 := Aside0.mk hr72
             have HC189 := Aside0.mk (show y186.length ≤ co71 from by omega)
             clear hr72 hC72 hroom72 hi072 hsz72
             have KY72 := Aside0.mk hy72
             clear hy72
             have KL72 := Aside0.mk (show (x7_3 : Int).toNat ≤ t183.length from by omega)
             replace q72 := eq_true q72
             have p190 : 0 ≤ (x7_3 : Int) := of_decide_eq_true (by first | (with_reducible assumption) | assumption)
             have q190 : x7_3 < (t183.length : Int) := of_decide_eq_true (by first | (with_reducible assumption) | assumption)
             obtain ⟨ad190, e190, hx190_0, hx190_1⟩ := at_T52 (Kd.R_reads' HO_6.out).2.2 x7_3 p190 q190
             cases e190
             replace p190 := eq_true p190
             replace q190 := eq_true q190
             go_wp2_with (first | (go_at_call 72; (with_reducible refine (spec_l17Id.calls k3 _ _ y186 ((rd_T52 t183 x7_3).f0) false _ ?side1 ?side2 A67.out).mono ?_); (case side1 => repeat (first | exact (by repeat (first | (with_reducible exact HR189.out) | (with_reducible refine Kd.C_alloc ?_ _) | (with_reducible refine Kd.C_drewN ?_ _) | (with_reducible refine Kd.C_drew ?_) | exact HR189.out)) | (with_reducible refine Kd.C_alloc ?_ _) | (with_reducible refine Kd.C_drewN ?_ _) | (with_reducible refine Kd.C_drew ?_))); (case side2 => exact HC189.out); rintro e w' ⟨rfl, ⟨nd, rfl⟩⟩; (try first | exact ⟨rfl, _, World.drewN_drewN _ _ _⟩ | exact ⟨rfl, _, Eq.trans (World.drewN_drewN _ _ _) (congrArg (World.drewN _) (Nat.add_assoc _ _ _))⟩)))
             repeat (go_quiet (first | (go_at_call 72; (with_reducible refine (spec_l17Id.calls k3 _ _ y186 ((rd_T52 t183 x7_3).f0) false _ ?side1 ?side2 A67.out).mono ?_); (case side1 => repeat (first | exact (by repeat (first | (with_reducible exact HR189.out) | (with_reducible refine Kd.C_alloc ?_ _) | (with_reducible refine Kd.C_drewN ?_ _) | (with_reducible refine Kd.C_drew ?_) | exact HR189.out)) | (with_reducible refine Kd.C_alloc ?_ _) | (with_reducible refine Kd.C_drewN ?_ _) | (with_reducible refine Kd.C_drew ?_))); (case side2 => exact HC189.out); rintro e w' ⟨rfl, ⟨nd, rfl⟩⟩; (try first | exact ⟨rfl, _, World.drewN_drewN _ _ _⟩ | exact ⟨rfl, _, Eq.trans (World.drewN_drewN _ _ _) (congrArg (World.drewN _) (Nat.add_assoc _ _ _))⟩))); try go_wp2_with (first | (go_at_call 72; (with_reducible refine (spec_l17Id.calls k3 _ _ y186 ((rd_T52 t183 x7_3).f0) false _ ?side1 ?side2 A67.out).mono ?_); (case side1 => repeat (first | exact (by repeat (first | (with_reducible exact HR189.out) | (with_reducible refine Kd.C_alloc ?_ _) | (with_reducible refine Kd.C_drewN ?_ _) | (with_reducible refine Kd.C_drew ?_) | exact HR189.out)) | (with_reducible refine Kd.C_alloc ?_ _) | (with_reducible refine Kd.C_drewN ?_ _) | (with_reducible refine Kd.C_drew ?_))); (case side2 => exact HC189.out); rintro e w' ⟨rfl, ⟨nd, rfl⟩⟩; (try first | exact ⟨rfl, _, World.drewN_drewN _ _ _⟩ | exact ⟨rfl, _, Eq.trans (World.drewN_drewN _ _ _) (congrArg (World.drewN _) (Nat.add_assoc _ _ _))⟩))))
             go_roundg k3
             case measure => have := HJ1.out; have := HK2.out; have := HK3.out; omega
             case rel => exact ⟨(wrap64 (x7_3 + 1)), (by first | rfl | (simp; done) | (simp [*]; done)), H', ⟨by have := HJ1.out; have := HK2.out; have := HK3.out; omega⟩, ⟨kr_ HO_6⟩, ⟨bk_ BK175⟩, ⟨bf_ HB⟩⟩
           ·rw [if_neg c66] at H
            exact absurd H (by simp)
          ·rw [if_neg c65] at H
           exact absurd H (by simp)
         ·rw [if_neg c64] at H
          have c64b0 : decide (x7_3 < (t183.length : Int)) = false := decide_eq_false c64
          clear c64
          replace H := Option.bind_eq_some_iff.mp H
          obtain ⟨t192, A730, H⟩ := H
          replace H : (some (decide (t192 ≤ a0_2))) = some r := H
          have A73 := Aside0.mk A730
          clear A730
          obtain rfl := Option.some.inj H
          obtain ⟨Ao74, co74, eo74⟩ := Kd.R_slice HO_6.out
          subst eo74
          go_wp2_with (first | (go_at_call 75; (with_reducible refine (spec_l17Bytes.calls k3 _ _ t183 t192 _ ?side1 ?side2 A73.out).mono ?_); (case side1 => exact cr_ HO_6); (case side2 => exact (Kd.R_reads' HO_6.out).2.1); rintro e w' ⟨rfl, ⟨nd, rfl⟩⟩; (try first | exact ⟨rfl, _, World.drewN_drewN _ _ _⟩ | exact ⟨rfl, _, Eq.trans (World.drewN_drewN _ _ _) (congrArg (World.drewN _) (Nat.add_assoc _ _ _))⟩); have hcz75_0 := bc_ BK175 0 (.int .i64 a0_0) rfl; have hcz75_1 := bc_ BK175 1 (.int .i64 a0_1) rfl; have hcz75_2 := bc_ BK175 2 (.int .i64 a0_2) rfl; have hcz75_3 := bc_ BK175 3 (.int .i64 a0_3) rfl; have hcz75_4 := bc_ BK175 4 (.bool a0_4) rfl; have hcz75_5 := bc_ BK175 5 (.slice A0_5 l0_5.length c0_5) rfl; have hfz75_0 := blk_frozen BK175.out 0; have hfz75_1 := blk_frozen BK175.out 1; have hfz75_2 := blk_frozen BK175.out 2; have hfz75_3 := blk_frozen BK175.out 3; have hfz75_4 := blk_frozen BK175.out 4; have hfz75_5 := blk_frozen BK175.out 5))
          repeat (go_quiet (first | (go_at_call 75; (with_reducible refine (spec_l17Bytes.calls k3 _ _ t183 t192 _ ?side1 ?side2 A73.out).mono ?_); (case side1 => exact cr_ HO_6); (case side2 => exact (Kd.R_reads' HO_6.out).2.1); rintro e w' ⟨rfl, ⟨nd, rfl⟩⟩; (try first | exact ⟨rfl, _, World.drewN_drewN _ _ _⟩ | exact ⟨rfl, _, Eq.trans (World.drewN_drewN _ _ _) (congrArg (World.drewN _) (Nat.add_assoc _ _ _))⟩); have hcz75_0 := bc_ BK175 0 (.int .i64 a0_0) rfl; have hcz75_1 := bc_ BK175 1 (.int .i64 a0_1) rfl; have hcz75_2 := bc_ BK175 2 (.int .i64 a0_2) rfl; have hcz75_3 := bc_ BK175 3 (.int .i64 a0_3) rfl; have hcz75_4 := bc_ BK175 4 (.bool a0_4) rfl; have hcz75_5 := bc_ BK175 5 (.slice A0_5 l0_5.length c0_5) rfl; have hfz75_0 := blk_frozen BK175.out 0; have hfz75_1 := blk_frozen BK175.out 1; have hfz75_2 := blk_frozen BK175.out 2; have hfz75_3 := blk_frozen BK175.out 3; have hfz75_4 := blk_frozen BK175.out 4; have hfz75_5 := blk_frozen BK175.out 5)); try go_wp2_with (first | (go_at_call 75; (with_reducible refine (spec_l17Bytes.calls k3 _ _ t183 t192 _ ?side1 ?side2 A73.out).mono ?_); (case side1 => exact cr_ HO_6); (case side2 => exact (Kd.R_reads' HO_6.out).2.1); rintro e w' ⟨rfl, ⟨nd, rfl⟩⟩; (try first | exact ⟨rfl, _, World.drewN_drewN _ _ _⟩ | exact ⟨rfl, _, Eq.trans (World.drewN_drewN _ _ _) (congrArg (World.drewN _) (Nat.add_assoc _ _ _))⟩); have hcz75_0 := bc_ BK175 0 (.int .i64 a0_0) rfl; have hcz75_1 := bc_ BK175 1 (.int .i64 a0_1) rfl; have hcz75_2 := bc_ BK175 2 (.int .i64 a0_2) rfl; have hcz75_3 := bc_ BK175 3 (.int .i64 a0_3) rfl; have hcz75_4 := bc_ BK175 4 (.bool a0_4) rfl; have hcz75_5 := bc_ BK175 5 (.slice A0_5 l0_5.length c0_5) rfl; have hfz75_0 := blk_frozen BK175.out 0; have hfz75_1 := blk_frozen BK175.out 1; have hfz75_2 := blk_frozen BK175.out 2; have hfz75_3 := blk_frozen BK175.out 3; have hfz75_4 := blk_frozen BK175.out 4; have hfz75_5 := blk_frozen BK175.out 5)))
          go_ret
          exact ⟨by first | rfl | (simp [errW_none, errW_some] <;> rfl) | (simp [*, errW_none, errW_some] <;> rfl), bf_ HB⟩

end Go.Proofs.Ytnklakficjpmoaa.PFnExactBufLaneOf
