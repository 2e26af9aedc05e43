-- printed by a program of this session (wip/printx) out of the translation; Lean checks it
import Derived.Test.YtnklakficjpmoaaPFnExactBufLaneOfx0
import Derived.Test.YtnklakficjpmoaaPFnExactBufLaneOfx1
import Derived.Test.YtnklakficjpmoaaPFnExactBufLaneOfx2
import Derived.Test.YtnklakficjpmoaaPFnExactBufLaneOfx5
import Derived.Test.YtnklakficjpmoaaPFnExactBufLaneOfx6
namespace Go.Proofs.Ytnklakficjpmoaa.PFnExactBufLaneOf
open Go.RowKit Go.Proofs.YtnklakficjpmoaaW.PrintWords Go.Proofs.YtnklakficjpmoaaW.PrintLast Go.Proofs.YtnklakficjpmoaaW.PrintMore
attribute [local go_sem] max2_int min2_int max_two min_two max_three min_three max_four min_four   -- for this text's walks alone
set_option linter.unusedVariables false
set_option linter.unusedSimpArgs false

-- NOT PRINTED: function 124 (impl_Lane)

/-! ### impl_Buf_laneAt_1: function 125 -/
def impl_Buf_laneAt_1.f (a0_0 : Int) (l0_1 : List (S52)) (a1 : Int) : Option (Bool) := some (a0_0 == a1)
set_option maxHeartbeats 8000000 in
set_option maxRecDepth 100000 in
theorem impl_Buf_laneAt_1.calls (a0_0 : Int) (A0_1 : Option Addr) (c0_1 : Nat) (l0_1 : List (S52)) (a1 : Int) (r : Bool) (w : World) (hr0_1 : Kd.C k52 w A0_1 l0_1.length l0_1) (hc0_1 : l0_1.length ≤ c0_1) (gb224 : Nat) (hb_gb224 : w.heap[gb224]? = some (.cells #[.int .i64 a1] 3 (0, 0))) (h : impl_Buf_laneAt_1.f a0_0 l0_1 a1 = some r) :
  Calls Try.prog 125 #[.agg #[.int .i64 a0_0, .slice A0_1 l0_1.length c0_1], .pointer (some ⟨gb224, 0, none⟩)] w fun e w' => e = .returned (.bool r) ∧ Below w.heap.size w w' := by
 have hu80 := Try.underlying80
 have HR0_1 := Aside0.mk hr0_1
 have HC0_1 := Aside0.mk hc0_1
 clear hr0_1 hc0_1; have HB := Aside0.mk (Below.refl w.heap.size w)
 have H : (some (a0_0 == a1)) = some r := h
 clear h
 obtain rfl := Option.some.inj H
 have BK224 := Aside0.mk hb_gb224
 go_enter Try.func125, Try.ntmps125
 go_wp2_with (first | ((with_reducible refine gate_dst (N := 2) rfl ?_); refine box_event ?hg (N := 2) ?hd (cs := #[.int .i64 a0_0, .slice A0_1 l0_1.length c0_1]) (t := 80) ?hr ?_; (case hd => rfl); (case hg => rfl); (case hr => first | (go_simp; done) | (go_simp; rfl)); intro gb225 hg w4 hbox hb; have n0_ := bb_ BK224 hb; have n1_ := Aside0.mk (below_step (bf_ HB) hb); have n2_ := Aside0.mk (hbox); have n3_ := gw_ HB hg; have n4_ := gw_ HB hg; have n5_ := nl_ BK224 hg; have n6_ := ng_ BK224 hg; clear BK224; clear HB; have BK224 := n0_; have HB := n1_; have BK225 := n2_; have GW225 := n3_; have GE225 := n4_; have NB224_225 := n5_; have NB225_224 := n6_; clear n0_ n1_ n2_ n3_ n4_ n5_ n6_; clear hb hbox hg; have hnb5 := NB225_224.out; have hnc5 := NB224_225.out; have hcz6_0 := bc_ BK225 0 (.int .i64 a0_0) rfl; have hcz6_1 := bc_ BK225 1 (.slice A0_1 l0_1.length c0_1) rfl; have hfz6_0 := blk_frozen BK225.out 0; have hfz6_1 := blk_frozen BK225.out 1; have hcz7_0 := bc_ BK224 0 (.int .i64 a1) rfl; have hfz7_0 := blk_frozen BK224.out 0))
 go_ret
 exact ⟨by first | rfl | (simp [errW_none, errW_some] <;> rfl) | (simp [*, errW_none, errW_some] <;> rfl), bf_ HB⟩

/-! ### impl_Buf_laneAt: function 84 (wip/hand) -/
theorem impl_Buf_laneAt.pred (id : Int) (B : Nat) (w W : World) (hc : w.heap[B]? = some (.cells #[.int .i64 id] 3 (0, 0))) (hb : Below w.heap.size w W) (x : S80) (A : Option Addr) (c : Nat) (hr : Kd.C k52 W A x.f1.length x.f1) (hl : x.f1.length ≤ c) :
    Calls Try.prog 125 #[.agg #[.int .i64 x.f0, .slice A x.f1.length c], .pointer (some ⟨B, 0, none⟩)] W fun e w' => e = .returned (.bool (x.f0 == id)) ∧ Below W.heap.size W w' :=
  impl_Buf_laneAt_1.calls x.f0 A c x.f1 id (x.f0 == id) W hr hl B (blk_below (g := B) (o := .cells #[.int .i64 id] 3 (0, 0)) hc hb) rfl
theorem impl_Buf_laneAt.idx_at {l0 : List S80} {i : Int} (h0 : 0 ≤ i) (h1 : i < (l0.length : Int)) : l0[i.toNat]? = some (rd_T80 l0 i) := by
  unfold rd_T80
  rw [List.getD_eq_getElem?_getD, List.getElem?_eq_getElem (by omega)]; rfl
set_option maxHeartbeats 2000000 in
theorem impl_Buf_laneAt.idx_calls (p : S80 → Bool) (lb : Array Value) (A0 : Option Addr) (c0 : Nat) (l0 : List S80) (w : World) (hr0 : Kd.C k80 w A0 l0.length l0) (hc0 : l0.length ≤ c0) (hbig : l0.length ≤ 9223372036854775806)
    (hp : ∀ (W : World) (x : S80) (A : Option Addr) (c : Nat), Below w.heap.size w W → Kd.C k52 W A x.f1.length x.f1 → x.f1.length ≤ c → Calls Try.prog 125 (#[.agg #[.int .i64 x.f0, .slice A x.f1.length c]] ++ lb) W fun e w' => e = .returned (.bool (p x)) ∧ Below W.heap.size W w') :
    Calls Try.prog 124 #[.slice A0 l0.length c0, .func (.func 125) #[] lb] w fun e w' => e = .returned (.int .i64 (idxP p l0)) ∧ Below w.heap.size w w' := by
  have hu80 := Try.underlying80
  have HR0 := Aside0.mk hr0
  have HC0 := Aside0.mk hc0
  have HN := Aside0.mk hbig
  have HP := Aside0.mk hp
  clear hr0 hc0 hbig hp
  go_enter Try.func124, Try.ntmps124
  go_wp2
  go_loopg [5, 8] l0.length (fun gg _ s8 wr => ∃ i : Int, s8 = .int .i64 i ∧ Aside0 (0 ≤ i ∧ i ≤ (l0.length : Int) ∧ l0.length - i.toNat ≤ gg) ∧ Aside0 (Below w.heap.size w wr) ∧ Aside0 (∀ (j : Nat) y, (j : Int) < i → l0[j]? = some y → p y = false))
  case atStart => exact ⟨0, rfl, ⟨by omega, by omega, by omega⟩, ⟨Below.refl _ w⟩, ⟨fun j y hj => by omega⟩⟩
  case round =>
    obtain ⟨i, rfl, HI, HB, A⟩ := hrel
    by_cases c6 : i < (l0.length : Int)
    · have c6b0 : decide (i < (l0.length : Int)) = true := decide_eq_true c6
      have p115 : 0 ≤ i := HI.out.1
      obtain ⟨ad115, A115, c115, e115, hx115_0, hx115_1, hl115, hi115⟩ := at_T80 HR0.out i p115 c6
      have HX := Aside0.mk (impl_Buf_laneAt.idx_at p115 c6)
      have q115 := c6
      clear c6
      cases e115
      replace hx115_0 := (HB.out.cell (World.block_lt_of_cell? w _ hx115_0)).trans hx115_0
      replace hx115_1 := (HB.out.cell (World.block_lt_of_cell? w _ hx115_1)).trans hx115_1
      have HQ := Aside0.mk q115
      replace p115 := eq_true p115
      replace q115 := eq_true q115
      have hcall := (HP.out wr (rd_T80 l0 i) A115 c115 HB.out (Kd.C_below hi115 HB.out) hl115).mono (fun e w' (hh : _ ∧ _) => (⟨hh.1, below_step HB.out hh.2⟩ : _ ∧ Below w.heap.size w w'))
      clear hi115 hl115
      generalize rd_T80 l0 i = x at *
      cases hq : p x with
      | true =>
        rw [hq] at hcall
        have HQ1 := Aside0.mk hq
        clear hq
        go_wp2_with (go_at_call 125; refine hcall.mono ?_; rintro e w' ⟨rfl, hb'⟩)
        go_ret
        refine ⟨?_, hb'⟩
        rw [idxP_hit l0 i.toNat x HX.out HQ1.out (fun j y hj => A.out j y (by omega)), Int.toNat_of_nonneg HI.out.1]
        rfl
      | false =>
        rw [hq] at hcall
        have HQ1 := Aside0.mk hq
        clear hq
        go_wp2_with (go_at_call 125; refine hcall.mono ?_; rintro e w' ⟨rfl, hb'⟩)
        go_roundg (l0.length - (i.toNat + 1))
        case measure => have := HI.out; have := HQ.out; omega
        case rel =>
          have h1 := HI.out
          have h2 := HQ.out
          have h3 := HN.out
          refine ⟨i + 1, by rw [show wrap64 (i + 1) = i + 1 by unfold wrap64; omega], ⟨by omega, by omega, by omega⟩, ⟨hb'⟩, ⟨fun j y hj hy => ?_⟩⟩
          by_cases e : j = i.toNat
          · subst e
            rw [HX.out] at hy
            cases hy
            exact HQ1.out
          · exact A.out j y (by omega) hy
    · have c6b0 : decide (i < (l0.length : Int)) = false := decide_eq_false c6
      have HQ := Aside0.mk c6
      clear c6
      go_wp2
      go_ret
      refine ⟨?_, HB.out⟩
      rw [idxP_miss l0 (fun j y hy => by
        have := HQ.out
        by_cases hj : j < l0.length
        · exact A.out j y (by omega) hy
        · rw [List.getElem?_eq_none (by omega)] at hy; cases hy)]
      rfl
def impl_Buf_laneAt.f (a0_0 : Int) (a0_1 : Int) (a0_2 : Int) (a0_3 : Int) (a0_4 : Bool) (l0_5 : List (S80)) (a1 : Int) : Option (Int) := if l0_5.length ≤ 9223372036854775806 then some (idxP (fun x => x.f0 == a1) l0_5) else none
set_option maxHeartbeats 8000000 in
set_option maxRecDepth 100000 in
theorem impl_Buf_laneAt.calls (a0_0 : Int) (a0_1 : Int) (a0_2 : Int) (a0_3 : Int) (a0_4 : Bool) (A0_5 : Option Addr) (c0_5 : Nat) (l0_5 : List (S80)) (a1 : Int) (r : Int) (w : World) (hr0_5 : Kd.C k80 w A0_5 l0_5.length l0_5) (hc0_5 : l0_5.length ≤ c0_5) (h : impl_Buf_laneAt.f a0_0 a0_1 a0_2 a0_3 a0_4 l0_5 a1 = some r) :
  Calls Try.prog 84 #[.agg #[.int .i64 a0_0, .int .i64 a0_1, .int .i64 a0_2, .int .i64 a0_3, .bool a0_4, .slice A0_5 l0_5.length c0_5], .int .i64 a1] w fun e w' => e = .returned (.int .i64 r) ∧ Below w.heap.size w w' := by
  have hu47 := Try.underlying47
  unfold impl_Buf_laneAt.f at h
  split at h
  case isFalse => cases h
  rename_i hbig
  obtain rfl := Option.some.inj h
  have HC := fun (W : World) (B : Nat) (hw : Below w.heap.size w W) (hc : W.heap[B]? = some (.cells #[.int .i64 a1] 3 (0, 0))) =>
    (impl_Buf_laneAt.idx_calls (fun x => x.f0 == a1) #[.pointer (some ⟨B, 0, none⟩)] A0_5 c0_5 l0_5 W (Kd.C_below hr0_5 hw) hc0_5 hbig (fun W' x A c hb hr hl => impl_Buf_laneAt.pred a1 B W W' hc hb x A c hr hl)).mono (fun e w' (hh : _ ∧ _) => (⟨hh.1, hw.trans (hh.2.mono hw.size)⟩ : _ ∧ Below w.heap.size w w'))
  have HC' := Aside0.mk HC
  clear HC hr0_5 hc0_5 hbig h
  have HB := Aside0.mk (Below.refl w.heap.size w)
  go_enter Try.func84, Try.ntmps84
  go_wp2_with (go_at_call 124; refine (HC'.out _ _ ?hbe ?hce).mono ?_; (case hbe => repeat (first | (with_reducible first | exact HB.out | apply below_alloc | apply pw_below_drewN | apply below_drew1) | exact HB.out)); (case hce => first | exact heap_alloc_new _ _ | (have hz : ∀ (W : World) (o p : Obj), ((W.alloc o).alloc p).heap[W.heap.size + 1]? = some p := (fun W o p => by show ((W.heap.push o).push p)[W.heap.size + 1]? = _; rw [Array.getElem?_push, Array.size_push, if_pos rfl]); exact hz _ _ _) | (simp; done) | (simp [World.drew]; done)); rintro e w' ⟨rfl, hb'⟩)
  go_ret
  exact ⟨rfl, hb'⟩

/-! ### impl_BufLaneOf: function 54 -/
def impl_BufLaneOf.f (k : Nat) (a0_0 : Int) (a0_1 : Int) (a0_2 : Int) (a0_3 : Int) (a0_4 : Bool) (l0_5 : List (S80)) (a1 : Int) : Option (Int × Int) := (impl_Buf_laneAt.f a0_0 a0_1 a0_2 a0_3 a0_4 l0_5 a1).bind fun t227 => ((impl_BufOk.f k a0_0 a0_1 a0_2 a0_3 a0_4 l0_5).bind fun t228 => (if t228 = true then (if t227 < 0 then (some (0, 0)) else (if 0 ≤ t227 then (if t227 < (l0_5.length : Int) then ((impl_Lane_bytes.f k ((rd_T80 l0_5 t227).f0) ((rd_T80 l0_5 t227).f1)).bind fun t231 => (some ((((rd_T80 l0_5 t227).f1).length : Int), t231))) else (none)) else (none))) else (some ((-1), (-1)))))
theorem impl_BufLaneOf.mono : ∀ a0 a1 a2 a3 a4 a5 a6 k, LeO (impl_BufLaneOf.f k a0 a1 a2 a3 a4 a5 a6) (impl_BufLaneOf.f (k + 1) a0 a1 a2 a3 a4 a5 a6) := by
 intro a0 a1 a2 a3 a4 a5 a6 k
 unfold impl_BufLaneOf.f
 repeat' first
   | (with_reducible exact impl_BufOk.mono _ _ _ _ _ _ _)
   | (with_reducible exact impl_Lane_bytes.mono _ _ _)
   | (with_reducible exact LeO.refl _)
   | (with_reducible exact LeO.none _)
   | (with_reducible refine LeO.ite ?_ ?_)
   | (with_reducible refine LeO.bind ?_ (fun _ => ?_))
   | exact impl_BufOk.mono _ _ _ _ _ _ _
   | exact impl_Lane_bytes.mono _ _ _
   | exact LeO.none _
   | refine LeO.ite ?_ ?_
   | refine LeO.bind ?_ (fun _ => ?_)
def impl_BufLaneOf.T6 : Bool × List (List Nat × List Nat) := (true, [([], []), ([0], [0]), ([], []), ([1, 2], [1, 2]), ([3], [3]), ([4], [4]), ([5], [5]), ([], []), ([7], [7]), ([], []), ([8, 9], [8, 9]), ([10], [10]), ([11], [11]), ([6, 12, 0, 1, 2, 3, 4, 5, 6], [6]), ([12, 13, 0, 1, 2, 3, 4, 5, 6, 7, 8, 9, 10, 11, 12, 13], [12])])
def impl_BufLaneOf.B6 : List Nat := [0, 1, 0, 7, 15, 31, 63, 0, 128, 0, 896, 1920, 3968, 8191, 16383]
theorem impl_BufLaneOf.tab6 : rtab .any (opsOf Try.f54 6) = impl_BufLaneOf.T6 := by kernel_rfl
theorem impl_BufLaneOf.bits6 : waitsOk impl_BufLaneOf.T6.2 impl_BufLaneOf.B6 = true := by kernel_rfl
set_option maxHeartbeats 8000000 in
set_option maxRecDepth 100000 in
theorem impl_BufLaneOf.calls (k : Nat) (a0_0 : Int) (a0_1 : Int) (a0_2 : Int) (a0_3 : Int) (a0_4 : Bool) (A0_5 : Option Addr) (c0_5 : Nat) (l0_5 : List (S80)) (a1 : Int) (r1 : Int) (r2 : Int) (w : World) (hr0_5 : Kd.C k80 w A0_5 l0_5.length l0_5) (hc0_5 : l0_5.length ≤ c0_5) (h : impl_BufLaneOf.f k a0_0 a0_1 a0_2 a0_3 a0_4 l0_5 a1 = some (r1, r2)) :
  Calls Try.prog 54 #[.agg #[.int .i64 a0_0, .int .i64 a0_1, .int .i64 a0_2, .int .i64 a0_3, .bool a0_4, .slice A0_5 l0_5.length c0_5], .int .i64 a1] w fun e w' => e = .returned (.tuple #[.int .i64 r1, .int .i64 r2]) ∧ Below w.heap.size w w' := by
 have hu47 := Try.underlying47; have hu80 := Try.underlying80
 have HR0_5 := Aside0.mk hr0_5
 have HC0_5 := Aside0.mk hc0_5
 clear hr0_5 hc0_5; have HB := Aside0.mk (Below.refl w.heap.size w)
 have H : ((impl_Buf_laneAt.f a0_0 a0_1 a0_2 a0_3 a0_4 l0_5 a1).bind fun t227 => ((impl_BufOk.f k a0_0 a0_1 a0_2 a0_3 a0_4 l0_5).bind fun t228 => (if t228 = true then (if t227 < 0 then (some (0, 0)) else (if 0 ≤ t227 then (if t227 < (l0_5.length : Int) then ((impl_Lane_bytes.f k ((rd_T80 l0_5 t227).f0) ((rd_T80 l0_5 t227).f1)).bind fun t231 => (some ((((rd_T80 l0_5 t227).f1).length : Int), t231))) else (none)) else (none))) else (some ((-1), (-1)))))) = some (r1, r2) := h
 clear h
 replace H := Option.bind_eq_some_iff.mp H
 obtain ⟨t227, A30, H⟩ := H
 replace H : ((impl_BufOk.f k a0_0 a0_1 a0_2 a0_3 a0_4 l0_5).bind fun t228 => (if t228 = true then (if t227 < 0 then (some (0, 0)) else (if 0 ≤ t227 then (if t227 < (l0_5.length : Int) then ((impl_Lane_bytes.f k ((rd_T80 l0_5 t227).f0) ((rd_T80 l0_5 t227).f1)).bind fun t231 => (some ((((rd_T80 l0_5 t227).f1).length : Int), t231))) else (none)) else (none))) else (some ((-1), (-1))))) = some (r1, r2) := H
 have A3 := Aside0.mk A30
 clear A30
 replace H := Option.bind_eq_some_iff.mp H
 obtain ⟨t228, A40, H⟩ := H
 replace H : (if t228 = true then (if t227 < 0 then (some (0, 0)) else (if 0 ≤ t227 then (if t227 < (l0_5.length : Int) then ((impl_Lane_bytes.f k ((rd_T80 l0_5 t227).f0) ((rd_T80 l0_5 t227).f1)).bind fun t231 => (some ((((rd_T80 l0_5 t227).f1).length : Int), t231))) else (none)) else (none))) else (some ((-1), (-1)))) = some (r1, r2) := H
 have A4 := Aside0.mk A40
 clear A40
 by_cases c5 : t228 = true
 ·subst c5
  have H1 : (if t227 < 0 then (some (0, 0)) else (if 0 ≤ t227 then (if t227 < (l0_5.length : Int) then ((impl_Lane_bytes.f k ((rd_T80 l0_5 t227).f0) ((rd_T80 l0_5 t227).f1)).bind fun t231 => (some ((((rd_T80 l0_5 t227).f1).length : Int), t231))) else (none)) else (none))) = some (r1, r2) := by rw [if_pos rfl] at H; exact H
  clear H
  have H := H1
  clear H1
  by_cases c6 : t227 < 0
  ·rw [if_pos c6] at H
   have c6b0 : decide (t227 < 0) = true := decide_eq_true c6
   clear c6
   simp only [Option.some.injEq, Prod.mk.injEq] at H
   obtain ⟨rfl, rfl⟩ := H
   go_enter Try.func54, Try.ntmps54
   go_wp2_with (first | ((with_reducible refine gate_dst (N := 2) rfl ?_); refine box_event ?hg (N := 2) ?hd (cs := #[.int .i64 a0_0, .int .i64 a0_1, .int .i64 a0_2, .int .i64 a0_3, .bool a0_4, .slice A0_5 l0_5.length c0_5]) (t := 47) ?hr ?_; (case hd => rfl); (case hg => rfl); (case hr => first | (go_simp; done) | (go_simp; rfl)); intro gb226 hg w7 hbox hb; have n0_ := Aside0.mk (below_step (be_ HB) hb); have n1_ := Aside0.mk (hbox); have n2_ := gw_ HB hg; have n3_ := gw_ HB hg; clear HB; have HB := n0_; have BK226 := n1_; have GW226 := n2_; have GE226 := n3_; clear n0_ n1_ n2_ n3_; clear hb hbox hg; have hcz8_0 := bc_ BK226 0 (.int .i64 a0_0) rfl; have hcz8_1 := bc_ BK226 1 (.int .i64 a0_1) rfl; have hcz8_2 := bc_ BK226 2 (.int .i64 a0_2) rfl; have hcz8_3 := bc_ BK226 3 (.int .i64 a0_3) rfl; have hcz8_4 := bc_ BK226 4 (.bool a0_4) rfl; have hcz8_5 := bc_ BK226 5 (.slice A0_5 l0_5.length c0_5) rfl; have hfz8_0 := blk_frozen BK226.out 0; have hfz8_1 := blk_frozen BK226.out 1; have hfz8_2 := blk_frozen BK226.out 2; have hfz8_3 := blk_frozen BK226.out 3; have hfz8_4 := blk_frozen BK226.out 4; have hfz8_5 := blk_frozen BK226.out 5) | ((with_reducible refine gate_callee (f := 84) rfl ?_); refine goesL_ (some 9) rfl rfl Try.func84 (by kernel_rfl) rfl #[.agg #[.int .i64 a0_0, .int .i64 a0_1, .int .i64 a0_2, .int .i64 a0_3, .bool a0_4, .slice A0_5 l0_5.length c0_5], .int .i64 a1] rfl mt_ ?_; (with_reducible refine (impl_Buf_laneAt.calls a0_0 a0_1 a0_2 a0_3 a0_4 _ _ l0_5 a1 t227 _ ?side1 ?side2 A3.out).mono ?_); (case side1 => repeat (first | exact (Kd.C_below HR0_5.out HB.out) | (with_reducible refine Kd.C_alloc ?_ _) | (with_reducible refine Kd.C_drewN ?_ _) | (with_reducible refine Kd.C_drew ?_))); (case side2 => exact HC0_5.out); rintro e w9 ⟨rfl, hb⟩; refine ⟨_, rfl, ?_⟩; have n0_ := bb_ BK226 hb; have n1_ := Aside0.mk (below_step (bf_ HB) hb); clear BK226; clear HB; have BK226 := n0_; have HB := n1_; clear n0_ n1_; (try clear hb); (try clear hb2); (try clear hk); (try clear hi); have hcz10_0 := bc_ BK226 0 (.int .i64 a0_0) rfl; have hcz10_1 := bc_ BK226 1 (.int .i64 a0_1) rfl; have hcz10_2 := bc_ BK226 2 (.int .i64 a0_2) rfl; have hcz10_3 := bc_ BK226 3 (.int .i64 a0_3) rfl; have hcz10_4 := bc_ BK226 4 (.bool a0_4) rfl; have hcz10_5 := bc_ BK226 5 (.slice A0_5 l0_5.length c0_5) rfl; have hfz10_0 := blk_frozen BK226.out 0; have hfz10_1 := blk_frozen BK226.out 1; have hfz10_2 := blk_frozen BK226.out 2; have hfz10_3 := blk_frozen BK226.out 3; have hfz10_4 := blk_frozen BK226.out 4; have hfz10_5 := blk_frozen BK226.out 5) | ((with_reducible refine gate_callee (f := 48) rfl ?_); refine goesL_ (some 12) rfl rfl Try.func48 (by kernel_rfl) rfl #[.agg #[.int .i64 a0_0, .int .i64 a0_1, .int .i64 a0_2, .int .i64 a0_3, .bool a0_4, .slice A0_5 l0_5.length c0_5]] rfl mt_ ?_; (with_reducible refine (impl_BufOk.calls k a0_0 a0_1 a0_2 a0_3 a0_4 _ _ l0_5 true _ ?side1 ?side2 A4.out).mono ?_); (case side1 => repeat (first | exact (Kd.C_below HR0_5.out HB.out) | (with_reducible refine Kd.C_alloc ?_ _) | (with_reducible refine Kd.C_drewN ?_ _) | (with_reducible refine Kd.C_drew ?_))); (case side2 => exact HC0_5.out); rintro e w11 ⟨rfl, hb⟩; refine ⟨_, rfl, ?_⟩; have n0_ := bb_ BK226 hb; have n1_ := Aside0.mk (below_step (bf_ HB) hb); clear BK226; clear HB; have BK226 := n0_; have HB := n1_; clear n0_ n1_; (try clear hb); (try clear hb2); (try clear hk); (try clear hi)))
   go_ret2
   exact ⟨by first | rfl | (simp [errW_none, errW_some] <;> rfl) | (simp [*, errW_none, errW_some] <;> rfl), bf_ HB⟩
  ·rw [if_neg c6] at H
   have c6b0 : decide (t227 < 0) = false := decide_eq_false c6
   clear c6
   by_cases c12 : 0 ≤ t227
   ·rw [if_pos c12] at H
    have c12b0 : decide (0 ≤ t227) = true := decide_eq_true c12
    clear c12
    by_cases c13 : t227 < (l0_5.length : Int)
    ·rw [if_pos c13] at H
     have c13b0 : decide (t227 < (l0_5.length : Int)) = true := decide_eq_true c13
     clear c13
     replace H := Option.bind_eq_some_iff.mp H
     obtain ⟨t231, A140, H⟩ := H
     replace H : (some ((((rd_T80 l0_5 t227).f1).length : Int), t231)) = some (r1, r2) := H
     have A14 := Aside0.mk A140
     clear A140
     simp only [Option.some.injEq, Prod.mk.injEq] at H
     obtain ⟨rfl, rfl⟩ := H
     go_enter Try.func54, Try.ntmps54
     try go_wp2_with (first | ((with_reducible refine gate_dst (N := 2) rfl ?_); refine box_event ?hg (N := 2) ?hd (cs := #[.int .i64 a0_0, .int .i64 a0_1, .int .i64 a0_2, .int .i64 a0_3, .bool a0_4, .slice A0_5 l0_5.length c0_5]) (t := 47) ?hr ?_; (case hd => rfl); (case hg => rfl); (case hr => first | (go_simp; done) | (go_simp; rfl)); intro gb226 hg w15 hbox hb; have n0_ := Aside0.mk (below_step (be_ HB) hb); have n1_ := Aside0.mk (hbox); have n2_ := gw_ HB hg; have n3_ := gw_ HB hg; clear HB; have HB := n0_; have BK226 := n1_; have GW226 := n2_; have GE226 := n3_; clear n0_ n1_ n2_ n3_; clear hb hbox hg; have hcz16_0 := bc_ BK226 0 (.int .i64 a0_0) rfl; have hcz16_1 := bc_ BK226 1 (.int .i64 a0_1) rfl; have hcz16_2 := bc_ BK226 2 (.int .i64 a0_2) rfl; have hcz16_3 := bc_ BK226 3 (.int .i64 a0_3) rfl; have hcz16_4 := bc_ BK226 4 (.bool a0_4) rfl; have hcz16_5 := bc_ BK226 5 (.slice A0_5 l0_5.length c0_5) rfl; have hfz16_0 := blk_frozen BK226.out 0; have hfz16_1 := blk_frozen BK226.out 1; have hfz16_2 := blk_frozen BK226.out 2; have hfz16_3 := blk_frozen BK226.out 3; have hfz16_4 := blk_frozen BK226.out 4; have hfz16_5 := blk_frozen BK226.out 5) | ((with_reducible refine gate_callee (f := 84) rfl ?_); refine goesL_ (some 9) rfl rfl Try.func84 (by kernel_rfl) rfl #[.agg #[.int .i64 a0_0, .int .i64 a0_1, .int .i64 a0_2, .int .i64 a0_3, .bool a0_4, .slice A0_5 l0_5.length c0_5], .int .i64 a1] rfl mt_ ?_; (with_reducible refine (impl_Buf_laneAt.calls a0_0 a0_1 a0_2 a0_3 a0_4 _ _ l0_5 a1 t227 _ ?side1 ?side2 A3.out).mono ?_); (case side1 => repeat (first | exact (Kd.C_below HR0_5.out HB.out) | (with_reducible refine Kd.C_alloc ?_ _) | (with_reducible refine Kd.C_drewN ?_ _) | (with_reducible refine Kd.C_drew ?_))); (case side2 => exact HC0_5.out); rintro e w17 ⟨rfl, hb⟩; refine ⟨_, rfl, ?_⟩; have n0_ := bb_ BK226 hb; have n1_ := Aside0.mk (below_step (bf_ HB) hb); clear BK226; clear HB; have BK226 := n0_; have HB := n1_; clear n0_ n1_; (try clear hb); (try clear hb2); (try clear hk); (try clear hi); have hcz18_0 := bc_ BK226 0 (.int .i64 a0_0) rfl; have hcz18_1 := bc_ BK226 1 (.int .i64 a0_1) rfl; have hcz18_2 := bc_ BK226 2 (.int .i64 a0_2) rfl; have hcz18_3 := bc_ BK226 3 (.int .i64 a0_3) rfl; have hcz18_4 := bc_ BK226 4 (.bool a0_4) rfl; have hcz18_5 := bc_ BK226 5 (.slice A0_5 l0_5.length c0_5) rfl; have hfz18_0 := blk_frozen BK226.out 0; have hfz18_1 := blk_frozen BK226.out 1; have hfz18_2 := blk_frozen BK226.out 2; have hfz18_3 := blk_frozen BK226.out 3; have hfz18_4 := blk_frozen BK226.out 4; have hfz18_5 := blk_frozen BK226.out 5) | ((with_reducible refine gate_callee (f := 48) rfl ?_); refine goesL_ (some 12) rfl rfl Try.func48 (by kernel_rfl) rfl #[.agg #[.int .i64 a0_0, .int .i64 a0_1, .int .i64 a0_2, .int .i64 a0_3, .bool a0_4, .slice A0_5 l0_5.length c0_5]] rfl mt_ ?_; (with_reducible refine (impl_BufOk.calls k a0_0 a0_1 a0_2 a0_3 a0_4 _ _ l0_5 true _ ?side1 ?side2 A4.out).mono ?_); (case side1 => repeat (first | exact (Kd.C_below HR0_5.out HB.out) | (with_reducible refine Kd.C_alloc ?_ _) | (with_reducible refine Kd.C_drewN ?_ _) | (with_reducible refine Kd.C_drew ?_))); (case side2 => exact HC0_5.out); rintro e w19 ⟨rfl, hb⟩; refine ⟨_, rfl, ?_⟩; have n0_ := bb_ BK226 hb; have n1_ := Aside0.mk (below_step (bf_ HB) hb); clear BK226; clear HB; have BK226 := n0_; have HB := n1_; clear n0_ n1_; (try clear hb); (try clear hb2); (try clear hk); (try clear hi)))
     have n0_ := Aside0.mk (blk_drew BK226.out); have n1_ := Aside0.mk (below_drew1 HB.out); clear BK226; clear HB; have BK226 := n0_; have HB := n1_; clear n0_ n1_
     have p229 : 0 ≤ (t227 : Int) := of_decide_eq_true (by first | (with_reducible assumption) | assumption)
     have q229 : t227 < (l0_5.length : Int) := of_decide_eq_true (by first | (with_reducible assumption) | assumption)
     obtain ⟨ad229, A229_1, c229_1, e229, hx229_0, hx229_1, hl229_1, hi229_1⟩ := at_T80 HR0_5.out t227 p229 q229
     have hw229_1 := hx229_1; have hw229_0 := hx229_0
     cases e229
     replace hx229_0 := (HB.out.cell (World.block_lt_of_cell? w _ hx229_0)).trans hx229_0
     replace hx229_1 := (HB.out.cell (World.block_lt_of_cell? w _ hx229_1)).trans hx229_1
     have HR229_1 := Aside0.mk hi229_1
     have HC229_1 := Aside0.mk hl229_1
     clear hi229_1 hl229_1
     replace p229 := eq_true p229
     replace q229 := eq_true q229
     have p230 : 0 ≤ (t227 : Int) := of_decide_eq_true (by first | (with_reducible assumption) | assumption)
     have q230 : t227 < (l0_5.length : Int) := of_decide_eq_true (by first | (with_reducible assumption) | assumption)
     obtain ⟨ad230, A230_1, c230_1, e230, hx230_0, hx230_1, hl230_1, hi230_1⟩ := at_T80 HR0_5.out t227 p230 q230
     have hw230_1 := hx230_1; have hw230_0 := hx230_0
     obtain rfl : ad229 = ad230 := (by injection e230)
     replace hx230_0 := (HB.out.cell (World.block_lt_of_cell? w _ hx230_0)).trans hx230_0
     replace hx230_1 := (HB.out.cell (World.block_lt_of_cell? w _ hx230_1)).trans hx230_1
     have HR230_1 := Aside0.mk hi230_1
     have HC230_1 := Aside0.mk hl230_1
     clear hi230_1 hl230_1
     replace p230 := eq_true p230
     replace q230 := eq_true q230
     have ea_ := Option.some.inj (hx229_1.symm.trans hx230_1)
     injection ea_ with ea_ en_ ec_
     subst ea_
     subst ec_
     clear en_
     refine start_ (n := 15) (S := fun w' => w'.cell? ⟨gb226, 0, none⟩ = some (.int .i64 a0_0) ∧ w'.cell? ⟨gb226, 1, none⟩ = some (.int .i64 a0_1) ∧ w'.cell? ⟨gb226, 2, none⟩ = some (.int .i64 a0_2) ∧ w'.cell? ⟨gb226, 3, none⟩ = some (.int .i64 a0_3) ∧ w'.cell? ⟨gb226, 4, none⟩ = some (.bool a0_4) ∧ w'.cell? ⟨gb226, 5, none⟩ = some (.slice (some ad229) l0_5.length c0_5) ∧ w'.cell? (ad229.add ((t227).toNat * 2)) = some (.int .i64 ((rd_T80 l0_5 t227).f0)) ∧ w'.cell? ⟨(ad229.add ((t227).toNat * 2)).block, (ad229.add ((t227).toNat * 2)).off + 1, none⟩ = some (.slice A229_1 ((rd_T80 l0_5 t227).f1).length c229_1) ∧ w'.cell? (ad229.add ((t227).toNat * 2)) = some (.int .i64 ((rd_T80 l0_5 t227).f0)) ∧ w'.cell? ⟨(ad229.add ((t227).toNat * 2)).block, (ad229.add ((t227).toNat * 2)).off + 1, none⟩ = some (.slice A229_1 ((rd_T80 l0_5 t227).f1).length c229_1)) (ds := []) (bs 15 0) (by kernel_rfl) rfl rfl ⟨bt_ BK226 0, bt_ BK226 1, bt_ BK226 2, bt_ BK226 3, bt_ BK226 4, bt_ BK226 5, ((HB.out.cell (World.block_lt_of_cell? w _ hw229_0)).trans hw229_0), ((HB.out.cell (World.block_lt_of_cell? w _ hw229_1)).trans hw229_1), ((HB.out.cell (World.block_lt_of_cell? w _ hw230_0)).trans hw230_0), ((HB.out.cell (World.block_lt_of_cell? w _ hw230_1)).trans hw230_1)⟩ (fun hHeld => ?_); refine with_tabW impl_BufLaneOf.tab6 impl_BufLaneOf.bits6 (fun HT_ HW_ => ?_)
     generalize w19.drew = w20 at BK226 HB HR229_1 HR230_1 hx229_0 hx229_1 hx230_0 hx230_1 hHeld ⊢
     refine pure_s (i := 0) (N := some 17) (bs 15 1) (any_of HT_.out (by kernel_rfl)) (h := ?_)
     refine pure_s (i := 2) (N := some 19) #[oT,oF,oT,oF,oF,oF,oF,oF,oF,oF,oF,oF,oF,oF,oF] (any_of HT_.out (by kernel_rfl)) (h := ?_)
     refine pure_s (i := 7) (N := some 24) #[oT,oF,oT,oF,oF,oF,oF,oT,oF,oF,oF,oF,oF,oF,oF] (any_of HT_.out (by kernel_rfl)) (h := ?_)
     refine pure_s (i := 9) (N := some 26) #[oT,oF,oT,oF,oF,oF,oF,oT,oF,oT,oF,oF,oF,oF,oF] (any_of HT_.out (by kernel_rfl)) (h := ?_)
     refine take_ (i := 1) (N := some 18) (v := ?_) (a' := ?_) #[oT,oT,oT,oF,oF,oF,oF,oT,oF,oT,oF,oF,oF,oF,oF] rfl rfl (take_ofW HT_.out HW_.out (by kernel_rfl)) (fun _ _ _ h => h) (Or.inl ⟨by rfl, ?_⟩) hHeld ?_ ?_
     rotate_left
     ·rintro w' ⟨s0, s1, s2, s3, s4, s5, s6, s7, s8, s9⟩
      go_simp
      with_reducible rfl
     rotate_left
     ·simp only [Act.put, List.setIfInBounds_toArray, List.set_cons_zero, List.set_cons_succ, i64_w, i32_w]
      rfl
     refine pure_s (i := 3) (N := some 20) #[oT,oT,oT,oT,oF,oF,oF,oT,oF,oT,oF,oF,oF,oF,oF] (any_of HT_.out (by kernel_rfl)) (h := ?_)
     refine pure_s (i := 4) (N := some 21) #[oT,oT,oT,oT,oT,oF,oF,oT,oF,oT,oF,oF,oF,oF,oF] (any_of HT_.out (by kernel_rfl)) (h := ?_)
     refine take_ (i := 5) (N := some 22) (v := ?_) (a' := ?_) #[oT,oT,oT,oT,oT,oT,oF,oT,oF,oT,oF,oF,oF,oF,oF] rfl rfl (take_ofW HT_.out HW_.out (by kernel_rfl)) (fun _ _ _ h => h) (Or.inl ⟨by rfl, ?_⟩) hHeld ?_ ?_
     rotate_left
     ·rintro w' ⟨s0, s1, s2, s3, s4, s5, s6, s7, s8, s9⟩
      go_simp
      with_reducible rfl
     rotate_left
     ·simp only [Act.put, List.setIfInBounds_toArray, List.set_cons_zero, List.set_cons_succ, i64_w, i32_w]
      rfl
     refine pure_s (i := 6) (N := some 23) #[oT,oT,oT,oT,oT,oT,oT,oT,oF,oT,oF,oF,oF,oF,oF] (any_of HT_.out (by kernel_rfl)) (h := ?_)
     refine take_ (i := 8) (N := some 25) (v := ?_) (a' := ?_) (bs 15 10) rfl rfl (take_ofW HT_.out HW_.out (by kernel_rfl)) (fun _ _ _ h => h) (Or.inl ⟨by rfl, ?_⟩) hHeld ?_ ?_
     rotate_left
     ·rintro w' ⟨s0, s1, s2, s3, s4, s5, s6, s7, s8, s9⟩
      go_simp
      with_reducible rfl
     rotate_left
     ·simp only [Act.put, List.setIfInBounds_toArray, List.set_cons_zero, List.set_cons_succ, i64_w, i32_w]
      rfl
     refine pure_s (i := 10) (N := some 27) (bs 15 11) (any_of HT_.out (by kernel_rfl)) (h := ?_)
     refine take_ (i := 11) (N := some 28) (v := ?_) (a' := ?_) (bs 15 12) rfl rfl (take_ofW HT_.out HW_.out (by kernel_rfl)) (fun _ _ _ h => h) (Or.inl ⟨by rfl, ?_⟩) hHeld ?_ ?_
     rotate_left
     ·rintro w' ⟨s0, s1, s2, s3, s4, s5, s6, s7, s8, s9⟩
      go_simp
      with_reducible rfl
     rotate_left
     ·simp only [Act.put, List.setIfInBounds_toArray, List.set_cons_zero, List.set_cons_succ, i64_w, i32_w]
      rfl
     refine one_ (i := 12) (N := some 29) (bs 15 13) rfl rfl (one_of HT_.out (by kernel_rfl)) (by decide) (fun K hK => ?_)
     refine goes_ Try.func86 (by kernel_rfl) rfl #[.agg #[.int .i64 ((rd_T80 l0_5 t227).f0), .slice A229_1 ((rd_T80 l0_5 t227).f1).length c229_1]] (by rfl) rfl rfl mt_ ?_
     with_reducible refine (impl_Lane_bytes.calls k ((rd_T80 l0_5 t227).f0) _ _ ((rd_T80 l0_5 t227).f1) t231 _ ?side1 ?side2 A14.out).mono ?_
     (case side1 => repeat (first | exact (Kd.C_below HR230_1.out HB.out) | (with_reducible refine Kd.C_alloc ?_ _) | (with_reducible refine Kd.C_drewN ?_ _) | (with_reducible refine Kd.C_drew ?_)))
     (case side2 => exact HC230_1.out)
     rintro e w21 ⟨rfl, hb⟩
     refine ⟨_, rfl, ?_⟩
     have n0_ := bb_ BK226 hb; have n1_ := Aside0.mk (below_step (bf_ HB) hb); clear BK226; clear HB; have BK226 := n0_; have HB := n1_; clear n0_ n1_; (try clear hb); (try clear hb2); (try clear hk); (try clear hi)
     refine hK.out _ _ ⟨bt_ BK226 0, bt_ BK226 1, bt_ BK226 2, bt_ BK226 3, bt_ BK226 4, bt_ BK226 5, ((HB.out.cell (World.block_lt_of_cell? w _ hw229_0)).trans hw229_0), ((HB.out.cell (World.block_lt_of_cell? w _ hw229_1)).trans hw229_1), ((HB.out.cell (World.block_lt_of_cell? w _ hw230_0)).trans hw230_0), ((HB.out.cell (World.block_lt_of_cell? w _ hw230_1)).trans hw230_1)⟩ (fun hHeld => ?_)
     clear hK K
     refine norm_ (a' := ?_) ?_ ?_
     rotate_left
     ·show Act.put _ (some 29) _ = _
      simp only [Act.put, List.setIfInBounds_toArray, List.set_cons_zero, List.set_cons_succ, i64_w, i32_w]
      rfl
     refine pure_s (i := 13) (N := some 4) (bs 15 14) (any_of HT_.out (by kernel_rfl)) (h := ?_)
     refine pure_s (i := 14) (N := some 5) (bs 15 15) (any_of HT_.out (by kernel_rfl)) (h := ?_)
     refine done_ (done_of HT_.out (by kernel_rfl)) ?_
     try go_wp2
     go_ret2
     exact ⟨by first | rfl | (simp [errW_none, errW_some] <;> rfl) | (simp [*, errW_none, errW_some] <;> rfl), bf_ HB⟩
    ·rw [if_neg c13] at H
     exact absurd H (by simp)
   ·rw [if_neg c12] at H
    exact absurd H (by simp)
 ·replace c5 := Bool.eq_false_iff.mpr c5
  subst c5
  have H1 : (some ((-1), (-1))) = some (r1, r2) := by rw [if_neg (show ¬ (false = true) by decide)] at H; exact H
  clear H
  have H := H1
  clear H1
  simp only [Option.some.injEq, Prod.mk.injEq] at H
  obtain ⟨rfl, rfl⟩ := H
  go_enter Try.func54, Try.ntmps54
  go_wp2_with (first | ((with_reducible refine gate_dst (N := 2) rfl ?_); refine box_event ?hg (N := 2) ?hd (cs := #[.int .i64 a0_0, .int .i64 a0_1, .int .i64 a0_2, .int .i64 a0_3, .bool a0_4, .slice A0_5 l0_5.length c0_5]) (t := 47) ?hr ?_; (case hd => rfl); (case hg => rfl); (case hr => first | (go_simp; done) | (go_simp; rfl)); intro gb226 hg w22 hbox hb; have n0_ := Aside0.mk (below_step (be_ HB) hb); have n1_ := Aside0.mk (hbox); have n2_ := gw_ HB hg; have n3_ := gw_ HB hg; clear HB; have HB := n0_; have BK226 := n1_; have GW226 := n2_; have GE226 := n3_; clear n0_ n1_ n2_ n3_; clear hb hbox hg; have hcz23_0 := bc_ BK226 0 (.int .i64 a0_0) rfl; have hcz23_1 := bc_ BK226 1 (.int .i64 a0_1) rfl; have hcz23_2 := bc_ BK226 2 (.int .i64 a0_2) rfl; have hcz23_3 := bc_ BK226 3 (.int .i64 a0_3) rfl; have hcz23_4 := bc_ BK226 4 (.bool a0_4) rfl; have hcz23_5 := bc_ BK226 5 (.slice A0_5 l0_5.length c0_5) rfl; have hfz23_0 := blk_frozen BK226.out 0; have hfz23_1 := blk_frozen BK226.out 1; have hfz23_2 := blk_frozen BK226.out 2; have hfz23_3 := blk_frozen BK226.out 3; have hfz23_4 := blk_frozen BK226.out 4; have hfz23_5 := blk_frozen BK226.out 5) | ((with_reducible refine gate_callee (f := 84) rfl ?_); refine goesL_ (some 9) rfl rfl Try.func84 (by kernel_rfl) rfl #[.agg #[.int .i64 a0_0, .int .i64 a0_1, .int .i64 a0_2, .int .i64 a0_3, .bool a0_4, .slice A0_5 l0_5.length c0_5], .int .i64 a1] rfl mt_ ?_; (with_reducible refine (impl_Buf_laneAt.calls a0_0 a0_1 a0_2 a0_3 a0_4 _ _ l0_5 a1 t227 _ ?side1 ?side2 A3.out).mono ?_); (case side1 => repeat (first | exact (Kd.C_below HR0_5.out HB.out) | (with_reducible refine Kd.C_alloc ?_ _) | (with_reducible refine Kd.C_drewN ?_ _) | (with_reducible refine Kd.C_drew ?_))); (case side2 => exact HC0_5.out); rintro e w24 ⟨rfl, hb⟩; refine ⟨_, rfl, ?_⟩; have n0_ := bb_ BK226 hb; have n1_ := Aside0.mk (below_step (bf_ HB) hb); clear BK226; clear HB; have BK226 := n0_; have HB := n1_; clear n0_ n1_; (try clear hb); (try clear hb2); (try clear hk); (try clear hi); have hcz25_0 := bc_ BK226 0 (.int .i64 a0_0) rfl; have hcz25_1 := bc_ BK226 1 (.int .i64 a0_1) rfl; have hcz25_2 := bc_ BK226 2 (.int .i64 a0_2) rfl; have hcz25_3 := bc_ BK226 3 (.int .i64 a0_3) rfl; have hcz25_4 := bc_ BK226 4 (.bool a0_4) rfl; have hcz25_5 := bc_ BK226 5 (.slice A0_5 l0_5.length c0_5) rfl; have hfz25_0 := blk_frozen BK226.out 0; have hfz25_1 := blk_frozen BK226.out 1; have hfz25_2 := blk_frozen BK226.out 2; have hfz25_3 := blk_frozen BK226.out 3; have hfz25_4 := blk_frozen BK226.out 4; have hfz25_5 := blk_frozen BK226.out 5) | ((with_reducible refine gate_callee (f := 48) rfl ?_); refine goesL_ (some 12) rfl rfl Try.func48 (by kernel_rfl) rfl #[.agg #[.int .i64 a0_0, .int .i64 a0_1, .int .i64 a0_2, .int .i64 a0_3, .bool a0_4, .slice A0_5 l0_5.length c0_5]] rfl mt_ ?_; (with_reducible refine (impl_BufOk.calls k a0_0 a0_1 a0_2 a0_3 a0_4 _ _ l0_5 false _ ?side1 ?side2 A4.out).mono ?_); (case side1 => repeat (first | exact (Kd.C_below HR0_5.out HB.out) | (with_reducible refine Kd.C_alloc ?_ _) | (with_reducible refine Kd.C_drewN ?_ _) | (with_reducible refine Kd.C_drew ?_))); (case side2 => exact HC0_5.out); rintro e w26 ⟨rfl, hb⟩; refine ⟨_, rfl, ?_⟩; have n0_ := bb_ BK226 hb; have n1_ := Aside0.mk (below_step (bf_ HB) hb); clear BK226; clear HB; have BK226 := n0_; have HB := n1_; clear n0_ n1_; (try clear hb); (try clear hb2); (try clear hk); (try clear hi)))
  go_ret2
  exact ⟨by first | rfl | (simp [errW_none, errW_some] <;> rfl) | (simp [*, errW_none, errW_some] <;> rfl), bf_ HB⟩

/-! ### laws_FnExactBufLaneOf: function 10 -/
def laws_FnExactBufLaneOf.j0 : Nat → Bool → Int → Int → Int → Int → Bool → List (S133) → Int → Int → Int → Int → Bool → List (S80) → Option (Bool)
  | 0, _, _, _, _, _, _, _, _, _, _, _, _, _ => none
  | k + 1, x38, x233000, x233001, x233002, x233003, x233004, x233005, x253000, x253001, x253002, x253003, x253004, x253005 => if x38 = true then (some false) else ((laws_toBuf.f k x233000 x233001 x233002 x233003 x233004 x233005).bind fun bt255 => ((laws_eqBuf.f k x253000 x253001 x253002 x253003 x253004 x253005 bt255.1 bt255.2.1 bt255.2.2.1 bt255.2.2.2.1 bt255.2.2.2.2.1 bt255.2.2.2.2.2).bind fun t263 => (if t263 = true then (some true) else (some false))))
def laws_FnExactBufLaneOf.f (k : Nat) (a0_0 : Int) (a0_1 : Int) (a0_2 : Int) (a0_3 : Int) (a0_4 : Bool) (l0_5 : List (S133)) (a1 : Int) : Option (Bool) := (laws_szBuf.f k a0_0 a0_1 a0_2 a0_3 a0_4 l0_5 1048576).bind fun t233 => (if t233 < 0 then (some true) else ((laws_toBuf.f k a0_0 a0_1 a0_2 a0_3 a0_4 l0_5).bind fun bt234 => ((spec_BufLaneOf.f k bt234.1 bt234.2.1 bt234.2.2.1 bt234.2.2.2.1 bt234.2.2.2.2.1 bt234.2.2.2.2.2 a1).bind fun bt242 => ((laws_toBuf.f k a0_0 a0_1 a0_2 a0_3 a0_4 l0_5).bind fun bt244 => ((impl_BufLaneOf.f k bt244.1 bt244.2.1 bt244.2.2.1 bt244.2.2.2.1 bt244.2.2.2.2.1 bt244.2.2.2.2.2 a1).bind fun bt253 => (if bt253.1 = bt242.1 then (laws_FnExactBufLaneOf.j0 k (bt253.2 != bt242.2) a0_0 a0_1 a0_2 a0_3 a0_4 l0_5 bt244.1 bt244.2.1 bt244.2.2.1 bt244.2.2.2.1 bt244.2.2.2.2.1 bt244.2.2.2.2.2) else (laws_FnExactBufLaneOf.j0 k true a0_0 a0_1 a0_2 a0_3 a0_4 l0_5 bt244.1 bt244.2.1 bt244.2.2.1 bt244.2.2.2.1 bt244.2.2.2.2.1 bt244.2.2.2.2.2)))))))
theorem laws_FnExactBufLaneOf.mono_l : ∀ k, (∀ y0 y1 y2 y3 y4 y5 y6 y7 y8 y9 y10 y11 y12, LeO (laws_FnExactBufLaneOf.j0 k y0 y1 y2 y3 y4 y5 y6 y7 y8 y9 y10 y11 y12) (laws_FnExactBufLaneOf.j0 (k + 1) y0 y1 y2 y3 y4 y5 y6 y7 y8 y9 y10 y11 y12))
 | 0 => fun _ _ _ _ _ _ _ _ _ _ _ _ _ r h => by simp [laws_FnExactBufLaneOf.j0] at h
 | k + 1 => by
  have ih0 := laws_FnExactBufLaneOf.mono_l k
  ·intro y0 y1 y2 y3 y4 y5 y6 y7 y8 y9 y10 y11 y12
   unfold laws_FnExactBufLaneOf.j0
   repeat' first
   | (with_reducible exact ih0 _ _ _ _ _ _ _ _ _ _ _ _ _)
   | (with_reducible exact impl_BufLaneOf.mono _ _ _ _ _ _ _ _)
   | (with_reducible exact laws_eqBuf.mono _ _ _ _ _ _ _ _ _ _ _ _ _)
   | (with_reducible exact laws_szBuf.mono _ _ _ _ _ _ _ _)
   | (with_reducible exact laws_toBuf.mono _ _ _ _ _ _ _)
   | (with_reducible exact spec_BufLaneOf.mono _ _ _ _ _ _ _ _)
   | (with_reducible exact LeO.refl _)
   | (with_reducible exact LeO.none _)
   | (with_reducible refine LeO.ite ?_ ?_)
   | (with_reducible refine LeO.bind ?_ (fun _ => ?_))
   | exact ih0 _ _ _ _ _ _ _ _ _ _ _ _ _
   | exact impl_BufLaneOf.mono _ _ _ _ _ _ _ _
   | exact laws_eqBuf.mono _ _ _ _ _ _ _ _ _ _ _ _ _
   | exact laws_szBuf.mono _ _ _ _ _ _ _ _
   | exact laws_toBuf.mono _ _ _ _ _ _ _
   | exact spec_BufLaneOf.mono _ _ _ _ _ _ _ _
   | exact LeO.none _
   | refine LeO.ite ?_ ?_
   | refine LeO.bind ?_ (fun _ => ?_)
theorem laws_FnExactBufLaneOf.mono : ∀ a0 a1 a2 a3 a4 a5 a6 k, LeO (laws_FnExactBufLaneOf.f k a0 a1 a2 a3 a4 a5 a6) (laws_FnExactBufLaneOf.f (k + 1) a0 a1 a2 a3 a4 a5 a6) := by
 intro a0 a1 a2 a3 a4 a5 a6 k
 have ih0 := laws_FnExactBufLaneOf.mono_l k
 unfold laws_FnExactBufLaneOf.f
 repeat' first
   | (with_reducible exact ih0 _ _ _ _ _ _ _ _ _ _ _ _ _)
   | (with_reducible exact impl_BufLaneOf.mono _ _ _ _ _ _ _ _)
   | (with_reducible exact laws_eqBuf.mono _ _ _ _ _ _ _ _ _ _ _ _ _)
   | (with_reducible exact laws_szBuf.mono _ _ _ _ _ _ _ _)
   | (with_reducible exact laws_toBuf.mono _ _ _ _ _ _ _)
   | (with_reducible exact spec_BufLaneOf.mono _ _ _ _ _ _ _ _)
   | (with_reducible exact LeO.refl _)
   | (with_reducible exact LeO.none _)
   | (with_reducible refine LeO.ite ?_ ?_)
   | (with_reducible refine LeO.bind ?_ (fun _ => ?_))
   | exact ih0 _ _ _ _ _ _ _ _ _ _ _ _ _
   | exact impl_BufLaneOf.mono _ _ _ _ _ _ _ _
   | exact laws_eqBuf.mono _ _ _ _ _ _ _ _ _ _ _ _ _
   | exact laws_szBuf.mono _ _ _ _ _ _ _ _
   | exact laws_toBuf.mono _ _ _ _ _ _ _
   | exact spec_BufLaneOf.mono _ _ _ _ _ _ _ _
   | exact LeO.none _
   | refine LeO.ite ?_ ?_
   | refine LeO.bind ?_ (fun _ => ?_)
set_option maxHeartbeats 8000000 in
set_option maxRecDepth 100000 in
theorem laws_FnExactBufLaneOf.calls (k : Nat) (a0_0 : Int) (a0_1 : Int) (a0_2 : Int) (a0_3 : Int) (a0_4 : Bool) (A0_5 : Option Addr) (c0_5 : Nat) (l0_5 : List (S133)) (a1 : Int) (r : Bool) (w : World) (hr0_5 : Kd.C k133 w A0_5 l0_5.length l0_5) (hc0_5 : l0_5.length ≤ c0_5) (h : laws_FnExactBufLaneOf.f k a0_0 a0_1 a0_2 a0_3 a0_4 l0_5 a1 = some r) :
  Calls Try.prog 10 #[.agg #[.int .i64 a0_0, .int .i64 a0_1, .int .i64 a0_2, .int .i64 a0_3, .bool a0_4, .slice A0_5 l0_5.length c0_5], .int .i64 a1] w fun e w' => e = .returned (.bool r) ∧ Below w.heap.size w w' := by
 have hu40 := Try.underlying40; have hu47 := Try.underlying47
 have HR0_5 := Aside0.mk hr0_5
 have HC0_5 := Aside0.mk hc0_5
 clear hr0_5 hc0_5; have HB := Aside0.mk (Below.refl w.heap.size w)
 have H : ((laws_szBuf.f k a0_0 a0_1 a0_2 a0_3 a0_4 l0_5 1048576).bind fun t233 => (if t233 < 0 then (some true) else ((laws_toBuf.f k a0_0 a0_1 a0_2 a0_3 a0_4 l0_5).bind fun bt234 => ((spec_BufLaneOf.f k bt234.1 bt234.2.1 bt234.2.2.1 bt234.2.2.2.1 bt234.2.2.2.2.1 bt234.2.2.2.2.2 a1).bind fun bt242 => ((laws_toBuf.f k a0_0 a0_1 a0_2 a0_3 a0_4 l0_5).bind fun bt244 => ((impl_BufLaneOf.f k bt244.1 bt244.2.1 bt244.2.2.1 bt244.2.2.2.1 bt244.2.2.2.2.1 bt244.2.2.2.2.2 a1).bind fun bt253 => (if bt253.1 = bt242.1 then (laws_FnExactBufLaneOf.j0 k (bt253.2 != bt242.2) a0_0 a0_1 a0_2 a0_3 a0_4 l0_5 bt244.1 bt244.2.1 bt244.2.2.1 bt244.2.2.2.1 bt244.2.2.2.2.1 bt244.2.2.2.2.2) else (laws_FnExactBufLaneOf.j0 k true a0_0 a0_1 a0_2 a0_3 a0_4 l0_5 bt244.1 bt244.2.1 bt244.2.2.1 bt244.2.2.2.1 bt244.2.2.2.2.1 bt244.2.2.2.2.2)))))))) = some r := h
 clear h
 replace H := Option.bind_eq_some_iff.mp H
 obtain ⟨t233, A30, H⟩ := H
 replace H : (if t233 < 0 then (some true) else ((laws_toBuf.f k a0_0 a0_1 a0_2 a0_3 a0_4 l0_5).bind fun bt234 => ((spec_BufLaneOf.f k bt234.1 bt234.2.1 bt234.2.2.1 bt234.2.2.2.1 bt234.2.2.2.2.1 bt234.2.2.2.2.2 a1).bind fun bt242 => ((laws_toBuf.f k a0_0 a0_1 a0_2 a0_3 a0_4 l0_5).bind fun bt244 => ((impl_BufLaneOf.f k bt244.1 bt244.2.1 bt244.2.2.1 bt244.2.2.2.1 bt244.2.2.2.2.1 bt244.2.2.2.2.2 a1).bind fun bt253 => (if bt253.1 = bt242.1 then (laws_FnExactBufLaneOf.j0 k (bt253.2 != bt242.2) a0_0 a0_1 a0_2 a0_3 a0_4 l0_5 bt244.1 bt244.2.1 bt244.2.2.1 bt244.2.2.2.1 bt244.2.2.2.2.1 bt244.2.2.2.2.2) else (laws_FnExactBufLaneOf.j0 k true a0_0 a0_1 a0_2 a0_3 a0_4 l0_5 bt244.1 bt244.2.1 bt244.2.2.1 bt244.2.2.2.1 bt244.2.2.2.2.1 bt244.2.2.2.2.2))))))) = some r := H
 have A3 := Aside0.mk A30
 clear A30
 by_cases c4 : t233 < 0
 ·rw [if_pos c4] at H
  have c4b0 : decide (t233 < 0) = true := decide_eq_true c4
  clear c4
  obtain rfl := Option.some.inj H
  go_enter Try.func10, Try.ntmps10
  go_wp2_with (first | ((with_reducible refine gate_dst (N := 2) rfl ?_); refine box_event ?hg (N := 2) ?hd (cs := #[.int .i64 a0_0, .int .i64 a0_1, .int .i64 a0_2, .int .i64 a0_3, .bool a0_4, .slice A0_5 l0_5.length c0_5]) (t := 40) ?hr ?_; (case hd => rfl); (case hg => rfl); (case hr => first | (go_simp; done) | (go_simp; rfl)); intro gb232 hg w5 hbox hb; have n0_ := Aside0.mk (below_step (be_ HB) hb); have n1_ := Aside0.mk (hbox); have n2_ := gw_ HB hg; have n3_ := gw_ HB hg; clear HB; have HB := n0_; have BK232 := n1_; have GW232 := n2_; have GE232 := n3_; clear n0_ n1_ n2_ n3_; clear hb hbox hg; have hcz6_0 := bc_ BK232 0 (.int .i64 a0_0) rfl; have hcz6_1 := bc_ BK232 1 (.int .i64 a0_1) rfl; have hcz6_2 := bc_ BK232 2 (.int .i64 a0_2) rfl; have hcz6_3 := bc_ BK232 3 (.int .i64 a0_3) rfl; have hcz6_4 := bc_ BK232 4 (.bool a0_4) rfl; have hcz6_5 := bc_ BK232 5 (.slice A0_5 l0_5.length c0_5) rfl; have hfz6_0 := blk_frozen BK232.out 0; have hfz6_1 := blk_frozen BK232.out 1; have hfz6_2 := blk_frozen BK232.out 2; have hfz6_3 := blk_frozen BK232.out 3; have hfz6_4 := blk_frozen BK232.out 4; have hfz6_5 := blk_frozen BK232.out 5) | ((with_reducible refine gate_callee (f := 24) rfl ?_); refine goesL_ (some 13) rfl rfl Try.func24 (by kernel_rfl) rfl #[.agg #[.int .i64 a0_0, .int .i64 a0_1, .int .i64 a0_2, .int .i64 a0_3, .bool a0_4, .slice A0_5 l0_5.length c0_5], .int .i64 1048576] rfl mt_ ?_; (with_reducible refine (laws_szBuf.calls k a0_0 a0_1 a0_2 a0_3 a0_4 _ _ l0_5 1048576 t233 _ ?side1 ?side2 A3.out).mono ?_); (case side1 => repeat (first | exact (Kd.C_below HR0_5.out HB.out) | (with_reducible refine Kd.C_alloc ?_ _) | (with_reducible refine Kd.C_drewN ?_ _) | (with_reducible refine Kd.C_drew ?_))); (case side2 => exact HC0_5.out); rintro e w7 ⟨rfl, hb⟩; refine ⟨_, rfl, ?_⟩; have n0_ := bb_ BK232 hb; have n1_ := Aside0.mk (below_step (bf_ HB) hb); clear BK232; clear HB; have BK232 := n0_; have HB := n1_; clear n0_ n1_; (try clear hb); (try clear hb2); (try clear hk); (try clear hi)))
  go_ret
  exact ⟨by first | rfl | (simp [errW_none, errW_some] <;> rfl) | (simp [*, errW_none, errW_some] <;> rfl), bf_ HB⟩
 ·rw [if_neg c4] at H
  have c4b0 : decide (t233 < 0) = false := decide_eq_false c4
  clear c4
  replace H := Option.bind_eq_some_iff.mp H
  obtain ⟨⟨t234, t235, t236, t237, t238, t239⟩, A80, H⟩ := H
  replace H : ((spec_BufLaneOf.f k t234 t235 t236 t237 t238 t239 a1).bind fun bt242 => ((laws_toBuf.f k a0_0 a0_1 a0_2 a0_3 a0_4 l0_5).bind fun bt244 => ((impl_BufLaneOf.f k bt244.1 bt244.2.1 bt244.2.2.1 bt244.2.2.2.1 bt244.2.2.2.2.1 bt244.2.2.2.2.2 a1).bind fun bt253 => (if bt253.1 = bt242.1 then (laws_FnExactBufLaneOf.j0 k (bt253.2 != bt242.2) a0_0 a0_1 a0_2 a0_3 a0_4 l0_5 bt244.1 bt244.2.1 bt244.2.2.1 bt244.2.2.2.1 bt244.2.2.2.2.1 bt244.2.2.2.2.2) else (laws_FnExactBufLaneOf.j0 k true a0_0 a0_1 a0_2 a0_3 a0_4 l0_5 bt244.1 bt244.2.1 bt244.2.2.1 bt244.2.2.2.1 bt244.2.2.2.2.1 bt244.2.2.2.2.2))))) = some r := H
  have A8 := Aside0.mk A80
  clear A80
  replace H := Option.bind_eq_some_iff.mp H
  obtain ⟨⟨t242, t243⟩, A90, H⟩ := H
  replace H : ((laws_toBuf.f k a0_0 a0_1 a0_2 a0_3 a0_4 l0_5).bind fun bt244 => ((impl_BufLaneOf.f k bt244.1 bt244.2.1 bt244.2.2.1 bt244.2.2.2.1 bt244.2.2.2.2.1 bt244.2.2.2.2.2 a1).bind fun bt253 => (if bt253.1 = t242 then (laws_FnExactBufLaneOf.j0 k (bt253.2 != t243) a0_0 a0_1 a0_2 a0_3 a0_4 l0_5 bt244.1 bt244.2.1 bt244.2.2.1 bt244.2.2.2.1 bt244.2.2.2.2.1 bt244.2.2.2.2.2) else (laws_FnExactBufLaneOf.j0 k true a0_0 a0_1 a0_2 a0_3 a0_4 l0_5 bt244.1 bt244.2.1 bt244.2.2.1 bt244.2.2.2.1 bt244.2.2.2.2.1 bt244.2.2.2.2.2)))) = some r := H
  have A9 := Aside0.mk A90
  clear A90
  replace H := Option.bind_eq_some_iff.mp H
  obtain ⟨⟨t244, t245, t246, t247, t248, t249⟩, A100, H⟩ := H
  replace H : ((impl_BufLaneOf.f k t244 t245 t246 t247 t248 t249 a1).bind fun bt253 => (if bt253.1 = t242 then (laws_FnExactBufLaneOf.j0 k (bt253.2 != t243) a0_0 a0_1 a0_2 a0_3 a0_4 l0_5 t244 t245 t246 t247 t248 t249) else (laws_FnExactBufLaneOf.j0 k true a0_0 a0_1 a0_2 a0_3 a0_4 l0_5 t244 t245 t246 t247 t248 t249))) = some r := H
  have A10 := Aside0.mk A100
  clear A100
  replace H := Option.bind_eq_some_iff.mp H
  obtain ⟨⟨t253, t254⟩, A110, H⟩ := H
  replace H : (if t253 = t242 then (laws_FnExactBufLaneOf.j0 k (t254 != t243) a0_0 a0_1 a0_2 a0_3 a0_4 l0_5 t244 t245 t246 t247 t248 t249) else (laws_FnExactBufLaneOf.j0 k true a0_0 a0_1 a0_2 a0_3 a0_4 l0_5 t244 t245 t246 t247 t248 t249)) = some r := H
  have A11 := Aside0.mk A110
  clear A110
  have HC12 := Aside0.mk H
  clear H
  go_enter Try.func10, Try.ntmps10
  go_upto_region 8 with (first | ((with_reducible refine gate_dst (N := 2) rfl ?_); refine box_event ?hg (N := 2) ?hd (cs := #[.int .i64 a0_0, .int .i64 a0_1, .int .i64 a0_2, .int .i64 a0_3, .bool a0_4, .slice A0_5 l0_5.length c0_5]) (t := 40) ?hr ?_; (case hd => rfl); (case hg => rfl); (case hr => first | (go_simp; done) | (go_simp; rfl)); intro gb232 hg w13 hbox hb; have n0_ := Aside0.mk (below_step (be_ HB) hb); have n1_ := Aside0.mk (hbox); have n2_ := gw_ HB hg; have n3_ := gw_ HB hg; clear HB; have HB := n0_; have BK232 := n1_; have GW232 := n2_; have GE232 := n3_; clear n0_ n1_ n2_ n3_; clear hb hbox hg; have hcz14_0 := bc_ BK232 0 (.int .i64 a0_0) rfl; have hcz14_1 := bc_ BK232 1 (.int .i64 a0_1) rfl; have hcz14_2 := bc_ BK232 2 (.int .i64 a0_2) rfl; have hcz14_3 := bc_ BK232 3 (.int .i64 a0_3) rfl; have hcz14_4 := bc_ BK232 4 (.bool a0_4) rfl; have hcz14_5 := bc_ BK232 5 (.slice A0_5 l0_5.length c0_5) rfl; have hfz14_0 := blk_frozen BK232.out 0; have hfz14_1 := blk_frozen BK232.out 1; have hfz14_2 := blk_frozen BK232.out 2; have hfz14_3 := blk_frozen BK232.out 3; have hfz14_4 := blk_frozen BK232.out 4; have hfz14_5 := blk_frozen BK232.out 5) | ((with_reducible refine gate_callee (f := 24) rfl ?_); refine goesL_ (some 13) rfl rfl Try.func24 (by kernel_rfl) rfl #[.agg #[.int .i64 a0_0, .int .i64 a0_1, .int .i64 a0_2, .int .i64 a0_3, .bool a0_4, .slice A0_5 l0_5.length c0_5], .int .i64 1048576] rfl mt_ ?_; (with_reducible refine (laws_szBuf.calls k a0_0 a0_1 a0_2 a0_3 a0_4 _ _ l0_5 1048576 t233 _ ?side1 ?side2 A3.out).mono ?_); (case side1 => repeat (first | exact (Kd.C_below HR0_5.out HB.out) | (with_reducible refine Kd.C_alloc ?_ _) | (with_reducible refine Kd.C_drewN ?_ _) | (with_reducible refine Kd.C_drew ?_))); (case side2 => exact HC0_5.out); rintro e w15 ⟨rfl, hb⟩; refine ⟨_, rfl, ?_⟩; have n0_ := bb_ BK232 hb; have n1_ := Aside0.mk (below_step (bf_ HB) hb); clear BK232; clear HB; have BK232 := n0_; have HB := n1_; clear n0_ n1_; (try clear hb); (try clear hb2); (try clear hk); (try clear hi); have hcz16_0 := bc_ BK232 0 (.int .i64 a0_0) rfl; have hcz16_1 := bc_ BK232 1 (.int .i64 a0_1) rfl; have hcz16_2 := bc_ BK232 2 (.int .i64 a0_2) rfl; have hcz16_3 := bc_ BK232 3 (.int .i64 a0_3) rfl; have hcz16_4 := bc_ BK232 4 (.bool a0_4) rfl; have hcz16_5 := bc_ BK232 5 (.slice A0_5 l0_5.length c0_5) rfl; have hfz16_0 := blk_frozen BK232.out 0; have hfz16_1 := blk_frozen BK232.out 1; have hfz16_2 := blk_frozen BK232.out 2; have hfz16_3 := blk_frozen BK232.out 3; have hfz16_4 := blk_frozen BK232.out 4; have hfz16_5 := blk_frozen BK232.out 5) | ((with_reducible refine gate_callee (f := 26) rfl ?_); refine goesL_ (some 18) rfl rfl Try.func26 (by kernel_rfl) rfl #[.agg #[.int .i64 a0_0, .int .i64 a0_1, .int .i64 a0_2, .int .i64 a0_3, .bool a0_4, .slice A0_5 l0_5.length c0_5]] rfl mt_ ?_; (with_reducible refine (laws_toBuf.calls k a0_0 a0_1 a0_2 a0_3 a0_4 _ _ l0_5 t234 t235 t236 t237 t238 t239 _ ?side1 ?side2 A8.out).mono ?_); (case side1 => repeat (first | exact (Kd.C_below HR0_5.out HB.out) | (with_reducible refine Kd.C_alloc ?_ _) | (with_reducible refine Kd.C_drewN ?_ _) | (with_reducible refine Kd.C_drew ?_))); (case side2 => exact HC0_5.out); rintro e w17 ⟨v240, rfl, ho0, hb⟩; refine ⟨_, rfl, ?_⟩; have n0_ := Aside0.mk (Kd.S_lower ho0 (below_size (bf_ HB))); have n1_ := bb_ BK232 hb; have n2_ := Aside0.mk (below_step (bf_ HB) hb); clear BK232; clear HB; have HO241 := n0_; have BK232 := n1_; have HB := n2_; clear n0_ n1_ n2_; (try clear hb); (try clear hb2); (try clear hk); (try clear hi); (try clear ho0); obtain ⟨Ao18, co18, eo18⟩ := Kd.S_slice HO241.out; subst eo18) | ((with_reducible refine gate_callee (f := 53) rfl ?_); refine goesL_ (some 20) rfl rfl Try.func53 (by kernel_rfl) rfl #[.agg #[.int .i64 t234, .int .i64 t235, .int .i64 t236, .int .i64 t237, .bool t238, .slice Ao18 t239.length co18], .int .i64 a1] rfl mt_ ?_; (with_reducible refine (spec_BufLaneOf.calls k t234 t235 t236 t237 t238 _ _ t239 a1 t242 t243 _ ?side1 ?side2 A9.out).mono ?_); (case side1 => repeat (first | exact (Kd.S_reads' HO241.out).2.2 | (with_reducible refine Kd.C_alloc ?_ _) | (with_reducible refine Kd.C_drewN ?_ _) | (with_reducible refine Kd.C_drew ?_))); (case side2 => exact (Kd.S_reads' HO241.out).2.1); rintro e w19 ⟨rfl, hb⟩; refine ⟨_, rfl, ?_⟩; have n0_ := Aside0.mk (Kd.S_below (by (with_reducible repeat (first | apply Kd.S_alloc | apply Kd.S_drewN | apply Kd.S_drew)); exact HO241.out) hb); have n1_ := bb_ BK232 hb; have n2_ := Aside0.mk (below_step (bf_ HB) hb); clear HO241; clear BK232; clear HB; have HO241 := n0_; have BK232 := n1_; have HB := n2_; clear n0_ n1_ n2_; (try clear hb); (try clear hb2); (try clear hk); (try clear hi); have hcz20_0 := bc_ BK232 0 (.int .i64 a0_0) rfl; have hcz20_1 := bc_ BK232 1 (.int .i64 a0_1) rfl; have hcz20_2 := bc_ BK232 2 (.int .i64 a0_2) rfl; have hcz20_3 := bc_ BK232 3 (.int .i64 a0_3) rfl; have hcz20_4 := bc_ BK232 4 (.bool a0_4) rfl; have hcz20_5 := bc_ BK232 5 (.slice A0_5 l0_5.length c0_5) rfl; have hfz20_0 := blk_frozen BK232.out 0; have hfz20_1 := blk_frozen BK232.out 1; have hfz20_2 := blk_frozen BK232.out 2; have hfz20_3 := blk_frozen BK232.out 3; have hfz20_4 := blk_frozen BK232.out 4; have hfz20_5 := blk_frozen BK232.out 5) | ((with_reducible refine gate_callee (f := 26) rfl ?_); refine goesL_ (some 24) rfl rfl Try.func26 (by kernel_rfl) rfl #[.agg #[.int .i64 a0_0, .int .i64 a0_1, .int .i64 a0_2, .int .i64 a0_3, .bool a0_4, .slice A0_5 l0_5.length c0_5]] rfl mt_ ?_; (with_reducible refine (laws_toBuf.calls k a0_0 a0_1 a0_2 a0_3 a0_4 _ _ l0_5 t244 t245 t246 t247 t248 t249 _ ?side1 ?side2 A10.out).mono ?_); (case side1 => repeat (first | exact (Kd.C_below HR0_5.out HB.out) | (with_reducible refine Kd.C_alloc ?_ _) | (with_reducible refine Kd.C_drewN ?_ _) | (with_reducible refine Kd.C_drew ?_))); (case side2 => exact HC0_5.out); rintro e w21 ⟨v250, rfl, ho0, hb⟩; refine ⟨_, rfl, ?_⟩; have n0_ := Aside0.mk (Kd.S_elder' (by (with_reducible repeat (first | apply Kd.S_alloc | apply Kd.S_drewN | apply Kd.S_drew)); exact HO241.out) (Kd.S_base ho0) hb); have n1_ := Aside0.mk (Kd.S_lower (Kd.S_new' ho0 (Kd.S_lt (by (with_reducible repeat (first | apply Kd.S_alloc | apply Kd.S_drewN | apply Kd.S_drew)); exact HO241.out))) (below_size (bf_ HB))); have n2_ := bb_ BK232 hb; have n3_ := Aside0.mk (below_step (bf_ HB) hb); clear HO241; clear BK232; clear HB; have HO241 := n0_; have HO251 := n1_; have BK232 := n2_; have HB := n3_; clear n0_ n1_ n2_ n3_; (try clear hb); (try clear hb2); (try clear hk); (try clear hi); (try clear ho0)) | ((with_reducible refine gate_dst (N := 8) rfl ?_); refine box_event ?hg (N := 8) ?hd (cs := #[.int .i64 0, .int .i64 0, .int .i64 0, .int .i64 0, .bool false, .slice none 0 0]) (t := 47) ?hr ?_; (case hd => rfl); (case hg => rfl); (case hr => first | (go_simp; done) | (go_simp; rfl)); intro gb252 hg w22 hbox hb; have n0_ := Aside0.mk (Kd.S_below (by (with_reducible repeat (first | apply Kd.S_alloc | apply Kd.S_drewN | apply Kd.S_drew)); exact HO241.out) hb); have n1_ := Aside0.mk (Kd.S_below (by (with_reducible repeat (first | apply Kd.S_alloc | apply Kd.S_drewN | apply Kd.S_drew)); exact HO251.out) hb); have n2_ := bb_ BK232 hb; have n3_ := Aside0.mk (below_step (bf_ HB) hb); have n4_ := Aside0.mk (hbox); have n5_ := gw_ HB hg; have n6_ := gw_ HB hg; have n7_ := nl_ BK232 hg; have n8_ := ng_ BK232 hg; clear HO241; clear HO251; clear BK232; clear HB; have HO241 := n0_; have HO251 := n1_; have BK232 := n2_; have HB := n3_; have BK252 := n4_; have GW252 := n5_; have GE252 := n6_; have NB232_252 := n7_; have NB252_232 := n8_; clear n0_ n1_ n2_ n3_ n4_ n5_ n6_ n7_ n8_; clear hb hbox hg; have hnb23 := NB252_232.out; have hnc23 := NB232_252.out; have hcz24_0 := bc_ BK252 0 (.int .i64 0) rfl; have hcz24_1 := bc_ BK252 1 (.int .i64 0) rfl; have hcz24_2 := bc_ BK252 2 (.int .i64 0) rfl; have hcz24_3 := bc_ BK252 3 (.int .i64 0) rfl; have hcz24_4 := bc_ BK252 4 (.bool false) rfl; have hcz24_5 := bc_ BK252 5 (.slice none 0 0) rfl; have hfz24_0 := blk_frozen BK252.out 0; have hfz24_1 := blk_frozen BK252.out 1; have hfz24_2 := blk_frozen BK252.out 2; have hfz24_3 := blk_frozen BK252.out 3; have hfz24_4 := blk_frozen BK252.out 4; have hfz24_5 := blk_frozen BK252.out 5; obtain ⟨Ao25, co25, eo25⟩ := Kd.S_slice HO251.out; subst eo25) | ((with_reducible refine gate_callee (f := 54) rfl ?_); refine goesL_ (some 28) rfl rfl Try.func54 (by kernel_rfl) rfl #[.agg #[.int .i64 t244, .int .i64 t245, .int .i64 t246, .int .i64 t247, .bool t248, .slice Ao25 t249.length co25], .int .i64 a1] rfl mt_ ?_; (with_reducible refine (impl_BufLaneOf.calls k t244 t245 t246 t247 t248 _ _ t249 a1 t253 t254 _ ?side1 ?side2 A11.out).mono ?_); (case side1 => refine (Kd.S_reads' (e := 80) (base := w.heap.size) (ok := fun k_ => (True ∧ some k_ ≠ (.slice Ao18 t239.length co18 : Value).ownBlock)) (n := t249.length) (c := co25) ?_).2.2; exact (by (with_reducible repeat (first | apply Kd.S_alloc | apply Kd.S_drewN | apply Kd.S_drew)); exact (Kd.S_mono (Kd.S_far (p := ⟨gb252, 5, none⟩) (Kd.S_far (p := ⟨gb252, 4, none⟩) (Kd.S_far (p := ⟨gb252, 3, none⟩) (Kd.S_far (p := ⟨gb252, 2, none⟩) (Kd.S_far (p := ⟨gb252, 1, none⟩) (Kd.S_far (p := ⟨gb252, 0, none⟩) (Kd.S_types HO251.out BK252.out (by decide)) (fun _ hk => by first | exact hk.2 | grind) (.int .i64 t244)) (fun _ hk => by first | exact hk.2 | grind) (.int .i64 t245)) (fun _ hk => by first | exact hk.2 | grind) (.int .i64 t246)) (fun _ hk => by first | exact hk.2 | grind) (.int .i64 t247)) (fun _ hk => by first | exact hk.2 | grind) (.bool t248)) (fun _ hk => by first | exact hk.2 | grind) (.slice Ao25 t249.length co25)) (fun _ h_ => h_.1)))); (case side2 => exact (Kd.S_reads' HO251.out).2.1); rintro e w26 ⟨rfl, hb⟩; refine ⟨_, rfl, ?_⟩; have n0_ := Aside0.mk (Kd.S_below (by (with_reducible repeat (first | apply Kd.S_alloc | apply Kd.S_drewN | apply Kd.S_drew)); exact (Kd.S_mono (Kd.S_far (p := ⟨gb252, 5, none⟩) (Kd.S_far (p := ⟨gb252, 4, none⟩) (Kd.S_far (p := ⟨gb252, 3, none⟩) (Kd.S_far (p := ⟨gb252, 2, none⟩) (Kd.S_far (p := ⟨gb252, 1, none⟩) (Kd.S_far (p := ⟨gb252, 0, none⟩) (Kd.S_types HO241.out BK252.out (by decide)) (fun _ hk => by first | exact hk.2 | grind) (.int .i64 t244)) (fun _ hk => by first | exact hk.2 | grind) (.int .i64 t245)) (fun _ hk => by first | exact hk.2 | grind) (.int .i64 t246)) (fun _ hk => by first | exact hk.2 | grind) (.int .i64 t247)) (fun _ hk => by first | exact hk.2 | grind) (.bool t248)) (fun _ hk => by first | exact hk.2 | grind) (.slice Ao25 t249.length co25)) (fun _ h_ => h_.1))) hb); have n1_ := Aside0.mk (Kd.S_below (by (with_reducible repeat (first | apply Kd.S_alloc | apply Kd.S_drewN | apply Kd.S_drew)); exact (Kd.S_mono (Kd.S_far (p := ⟨gb252, 5, none⟩) (Kd.S_far (p := ⟨gb252, 4, none⟩) (Kd.S_far (p := ⟨gb252, 3, none⟩) (Kd.S_far (p := ⟨gb252, 2, none⟩) (Kd.S_far (p := ⟨gb252, 1, none⟩) (Kd.S_far (p := ⟨gb252, 0, none⟩) (Kd.S_types HO251.out BK252.out (by decide)) (fun _ hk => by first | exact hk.2 | grind) (.int .i64 t244)) (fun _ hk => by first | exact hk.2 | grind) (.int .i64 t245)) (fun _ hk => by first | exact hk.2 | grind) (.int .i64 t246)) (fun _ hk => by first | exact hk.2 | grind) (.int .i64 t247)) (fun _ hk => by first | exact hk.2 | grind) (.bool t248)) (fun _ hk => by first | exact hk.2 | grind) (.slice Ao25 t249.length co25)) (fun _ h_ => h_.1))) hb); have n2_ := bm_ BK232 hb; have n3_ := Aside0.mk (blk_below (g := gb252) (o := .cells #[.int .i64 t244, .int .i64 t245, .int .i64 t246, .int .i64 t247, .bool t248, .slice Ao25 t249.length co25] 47 (0, 0)) (by (with_reducible repeat (first | refine blk_drewN ?_ _ | refine blk_drew ?_ | refine blk_alloc ?_ _)); refine blk_put (cs := #[.int .i64 t244, .int .i64 t245, .int .i64 t246, .int .i64 t247, .bool t248, .slice none 0 0]) ?_ 5 _ rfl; (with_reducible repeat (first | refine blk_drewN ?_ _ | refine blk_drew ?_ | refine blk_alloc ?_ _)); refine blk_put (cs := #[.int .i64 t244, .int .i64 t245, .int .i64 t246, .int .i64 t247, .bool false, .slice none 0 0]) ?_ 4 _ rfl; (with_reducible repeat (first | refine blk_drewN ?_ _ | refine blk_drew ?_ | refine blk_alloc ?_ _)); refine blk_put (cs := #[.int .i64 t244, .int .i64 t245, .int .i64 t246, .int .i64 0, .bool false, .slice none 0 0]) ?_ 3 _ rfl; (with_reducible repeat (first | refine blk_drewN ?_ _ | refine blk_drew ?_ | refine blk_alloc ?_ _)); refine blk_put (cs := #[.int .i64 t244, .int .i64 t245, .int .i64 0, .int .i64 0, .bool false, .slice none 0 0]) ?_ 2 _ rfl; (with_reducible repeat (first | refine blk_drewN ?_ _ | refine blk_drew ?_ | refine blk_alloc ?_ _)); refine blk_put (cs := #[.int .i64 t244, .int .i64 0, .int .i64 0, .int .i64 0, .bool false, .slice none 0 0]) ?_ 1 _ rfl; (with_reducible repeat (first | refine blk_drewN ?_ _ | refine blk_drew ?_ | refine blk_alloc ?_ _)); refine blk_put (cs := #[.int .i64 0, .int .i64 0, .int .i64 0, .int .i64 0, .bool false, .slice none 0 0]) ?_ 0 _ rfl; exact bk_ BK252) hb); have n4_ := Aside0.mk (below_step (bf_ HB) hb); clear HO241; clear HO251; clear BK232; clear BK252; clear HB; have HO241 := n0_; have HO251 := n1_; have BK232 := n2_; have BK252 := n3_; have HB := n4_; clear n0_ n1_ n2_ n3_ n4_; (try clear hb); (try clear hb2); (try clear hk); (try clear hi)))
  (try simp only [Act.put, List.setIfInBounds_toArray, List.set_cons_zero, List.set_cons_succ])
  go_cut [38] (fun v38 wc => ∃ (kq : Nat) (x38_11 : Bool), v38 = .bool x38_11 ∧ Aside0 (laws_FnExactBufLaneOf.j0 kq x38_11 a0_0 a0_1 a0_2 a0_3 a0_4 l0_5 t244 t245 t246 t247 t248 t249 = some r) ∧ Aside0 (kq ≤ k) ∧ Aside0 (Kd.S k80 80 wc w.heap.size (fun _ => True) (.slice Ao25 t249.length co25) t249) ∧ Aside0 (wc.heap[gb232]? = some (.cells #[.int .i64 a0_0, .int .i64 a0_1, .int .i64 a0_2, .int .i64 a0_3, .bool a0_4, (.slice A0_5 l0_5.length c0_5)] 40 (0, 0))) ∧ Aside0 (wc.heap[gb252]? = some (.cells #[.int .i64 t244, .int .i64 t245, .int .i64 t246, .int .i64 t247, .bool t248, (.slice Ao25 t249.length co25)] 47 (0, 0))) ∧ Aside0 (Below w.heap.size w wc))
  case first =>
   have H := HC12.out
   clear HC12
   by_cases c27 : t253 = t242
   ·rw [if_pos c27] at H
    have c27b0 : (t253 == t242) = true := beq_iff_eq.mpr c27
    have c27b1 : (t253 != t242) = false := bne_eq_false_iff_eq.mpr c27
    clear c27
    (first | rw [c27b0] | (simp only [i64_w, i32_w]; rw [c27b0]) | skip)
    have H' := Aside0.mk H
    clear H
    go_wp2
    go_meet
    case rel => exact ⟨_, ((t254 != t243)), (by first | rfl | (simp; done) | (simp [*]; done)), H', ⟨by first | omega | exact Nat.le_refl _⟩, ⟨by (with_reducible repeat (first | apply Kd.S_alloc | apply Kd.S_drewN | apply Kd.S_drew)); exact Kd.S_mono HO251.out (fun _ hk => by first | exact trivial | grind)⟩, ⟨bk_ BK232⟩, ⟨bk_ BK252⟩, ⟨bf_ HB⟩⟩
   ·rw [if_neg c27] at H
    have c27b0 : (t253 == t242) = false := beq_eq_false_iff_ne.mpr c27
    have c27b1 : (t253 != t242) = true := bne_iff_ne.mpr c27
    (first | rw [c27b0] | (simp only [i64_w, i32_w]; rw [c27b0]) | skip)
    have H' := Aside0.mk H
    clear H
    go_wp2
    go_meet
    case rel => exact ⟨_, (true), (by first | rfl | (simp; done) | (simp [*]; done)), H', ⟨by first | omega | exact Nat.le_refl _⟩, ⟨by (with_reducible repeat (first | apply Kd.S_alloc | apply Kd.S_drewN | apply Kd.S_drew)); exact Kd.S_mono HO251.out (fun _ hk => by first | exact trivial | grind)⟩, ⟨bk_ BK232⟩, ⟨bk_ BK252⟩, ⟨bf_ HB⟩⟩
  case rest =>
   clear HC12; (try clear c1); (try clear c2); (try clear p2); (try clear c4); (try clear c4b0); (try clear c5); (try clear c10); (try clear c23); (try clear c24); (try clear c26); (try clear c27); (try clear c27b0); (try clear c27b1); (try clear hcz14_0 hcz14_1 hcz14_2 hcz14_3 hcz14_4 hcz14_5 hfz14_0 hfz14_1 hfz14_2 hfz14_3 hfz14_4 hfz14_5); (try clear hcz16_0 hcz16_1 hcz16_2 hcz16_3 hcz16_4 hcz16_5 hfz16_0 hfz16_1 hfz16_2 hfz16_3 hfz16_4 hfz16_5); (try clear hcz20_0 hcz20_1 hcz20_2 hcz20_3 hcz20_4 hcz20_5 hfz20_0 hfz20_1 hfz20_2 hfz20_3 hfz20_4 hfz20_5); (try clear hcz24_0 hcz24_1 hcz24_2 hcz24_3 hcz24_4 hcz24_5 hfz24_0 hfz24_1 hfz24_2 hfz24_3 hfz24_4 hfz24_5); (try clear hcz6_0 hcz6_1 hcz6_2 hcz6_3 hcz6_4 hcz6_5 hfz6_0 hfz6_1 hfz6_2 hfz6_3 hfz6_4 hfz6_5)
   obtain ⟨kq, x38_11, rfl, HA, HJ11, HO_253005, BK232, BK252, HB⟩ := hcut
   cases kq with
   | zero => exact absurd HA.out (by simp [laws_FnExactBufLaneOf.j0])
   | succ kj11 =>
    have H := HA.out
    clear HA
    simp only [laws_FnExactBufLaneOf.j0] at H
    by_cases c28 : x38_11 = true
    ·subst c28
     have H1 : (some false) = some r := by rw [if_pos rfl] at H; exact H
     clear H
     have H := H1
     clear H1
     obtain rfl := Option.some.inj H
     go_wp2
     go_ret
     exact ⟨by first | rfl | (simp [errW_none, errW_some] <;> rfl) | (simp [*, errW_none, errW_some] <;> rfl), bf_ HB⟩
    ·replace c28 := Bool.eq_false_iff.mpr c28
     subst c28
     have H1 : ((laws_toBuf.f kj11 a0_0 a0_1 a0_2 a0_3 a0_4 l0_5).bind fun bt255 => ((laws_eqBuf.f kj11 t244 t245 t246 t247 t248 t249 bt255.1 bt255.2.1 bt255.2.2.1 bt255.2.2.2.1 bt255.2.2.2.2.1 bt255.2.2.2.2.2).bind fun t263 => (if t263 = true then (some true) else (some false)))) = some r := by rw [if_neg (show ¬ (false = true) by decide)] at H; exact H
     clear H
     have H := H1
     clear H1
     replace H := Option.bind_eq_some_iff.mp H
     obtain ⟨⟨t255, t256, t257, t258, t259, t260⟩, A290, H⟩ := H
     replace H : ((laws_eqBuf.f kj11 t244 t245 t246 t247 t248 t249 t255 t256 t257 t258 t259 t260).bind fun t263 => (if t263 = true then (some true) else (some false))) = some r := H
     have A29 := Aside0.mk A290
     clear A290
     replace H := Option.bind_eq_some_iff.mp H
     obtain ⟨t263, A300, H⟩ := H
     replace H : (if t263 = true then (some true) else (some false)) = some r := H
     have A30 := Aside0.mk A300
     clear A300
     by_cases c31 : t263 = true
     ·subst c31
      have H1 : (some true) = some r := by rw [if_pos rfl] at H; exact H
      clear H
      have H := H1
      clear H1
      obtain rfl := Option.some.inj H
      try go_wp2
      have n0_ := Aside0.mk (Kd.S_drew HO_253005.out); have n1_ := Aside0.mk (blk_drew BK232.out); have n2_ := Aside0.mk (blk_drew BK252.out); have n3_ := Aside0.mk (below_drew1 HB.out); clear HO_253005; clear BK232; clear BK252; clear HB; have HO_253005 := n0_; have BK232 := n1_; have BK252 := n2_; have HB := n3_; clear n0_ n1_ n2_ n3_
      refine start_ (n := 5) (S := fun w' => w'.cell? ⟨gb252, 0, none⟩ = some (.int .i64 t244) ∧ w'.cell? ⟨gb252, 1, none⟩ = some (.int .i64 t245) ∧ w'.cell? ⟨gb252, 2, none⟩ = some (.int .i64 t246) ∧ w'.cell? ⟨gb252, 3, none⟩ = some (.int .i64 t247) ∧ w'.cell? ⟨gb252, 4, none⟩ = some (.bool t248) ∧ w'.cell? ⟨gb252, 5, none⟩ = some (.slice Ao25 t249.length co25) ∧ w'.cell? ⟨gb232, 0, none⟩ = some (.int .i64 a0_0) ∧ w'.cell? ⟨gb232, 1, none⟩ = some (.int .i64 a0_1) ∧ w'.cell? ⟨gb232, 2, none⟩ = some (.int .i64 a0_2) ∧ w'.cell? ⟨gb232, 3, none⟩ = some (.int .i64 a0_3) ∧ w'.cell? ⟨gb232, 4, none⟩ = some (.bool a0_4) ∧ w'.cell? ⟨gb232, 5, none⟩ = some (.slice A0_5 l0_5.length c0_5)) (ds := []) (bs 5 0) (by kernel_rfl) rfl rfl ⟨bt_ BK252 0, bt_ BK252 1, bt_ BK252 2, bt_ BK252 3, bt_ BK252 4, bt_ BK252 5, bt_ BK232 0, bt_ BK232 1, bt_ BK232 2, bt_ BK232 3, bt_ BK232 4, bt_ BK232 5⟩ (fun hHeld => ?_)
      generalize wc.drew = w32 at HO_253005 BK232 BK252 HB hHeld ⊢
      refine take_ (i := 0) (N := some 39) (v := ?_) (a' := ?_) (bs 5 1) rfl rfl (by kernel_rfl) (fun _ _ _ h => h) (Or.inl ⟨by rfl, ?_⟩) hHeld ?_ ?_
      rotate_left
      ·rintro w' ⟨s0, s1, s2, s3, s4, s5, s6, s7, s8, s9, s10, s11⟩
       go_simp
       with_reducible rfl
      rotate_left
      ·simp only [Act.put, List.setIfInBounds_toArray, List.set_cons_zero, List.set_cons_succ, i64_w, i32_w]
       rfl
      refine take_ (i := 1) (N := some 40) (v := ?_) (a' := ?_) (bs 5 2) rfl rfl (by kernel_rfl) (fun _ _ _ h => h) (Or.inl ⟨by rfl, ?_⟩) hHeld ?_ ?_
      rotate_left
      ·rintro w' ⟨s0, s1, s2, s3, s4, s5, s6, s7, s8, s9, s10, s11⟩
       go_simp
       with_reducible rfl
      rotate_left
      ·simp only [Act.put, List.setIfInBounds_toArray, List.set_cons_zero, List.set_cons_succ, i64_w, i32_w]
       rfl
      refine one_ (i := 2) (N := some 41) (bs 5 3) rfl rfl (by kernel_rfl) (by decide) (fun K hK => ?_)
      refine goes_ Try.func26 (by kernel_rfl) rfl #[.agg #[.int .i64 a0_0, .int .i64 a0_1, .int .i64 a0_2, .int .i64 a0_3, .bool a0_4, .slice A0_5 l0_5.length c0_5]] (by rfl) rfl rfl mt_ ?_
      with_reducible refine (laws_toBuf.calls kj11 a0_0 a0_1 a0_2 a0_3 a0_4 _ _ l0_5 t255 t256 t257 t258 t259 t260 _ ?side1 ?side2 A29.out).mono ?_
      (case side1 => repeat (first | exact (Kd.C_below HR0_5.out HB.out) | (with_reducible refine Kd.C_alloc ?_ _) | (with_reducible refine Kd.C_drewN ?_ _) | (with_reducible refine Kd.C_drew ?_)))
      (case side2 => exact HC0_5.out)
      rintro e w33 ⟨v261, rfl, ho0, hb⟩
      refine ⟨_, rfl, ?_⟩
      have n0_ := Aside0.mk (Kd.S_elder' (by (with_reducible repeat (first | apply Kd.S_alloc | apply Kd.S_drewN | apply Kd.S_drew)); exact HO_253005.out) (Kd.S_base ho0) hb)
      have n1_ := Aside0.mk (Kd.S_lower (Kd.S_new' ho0 (Kd.S_lt (by (with_reducible repeat (first | apply Kd.S_alloc | apply Kd.S_drewN | apply Kd.S_drew)); exact HO_253005.out))) (below_size (bf_ HB)))
      have n2_ := bb_ BK232 hb; have n3_ := bb_ BK252 hb; have n4_ := Aside0.mk (below_step (bf_ HB) hb); clear HO_253005; clear BK232; clear BK252; clear HB; have HO_253005 := n0_; have HO262 := n1_; have BK232 := n2_; have BK252 := n3_; have HB := n4_; clear n0_ n1_ n2_ n3_ n4_; (try clear hb); (try clear hb2); (try clear hk); (try clear hi); (try clear ho0)
      obtain ⟨Ao34, co34, eo34⟩ := Kd.S_slice HO262.out
      (first | subst eo34 | (injection eo34 with f1_ f2_ f3_; have f4_ := f1_.symm; have f5_ := f3_.symm; clear f1_ f2_ f3_; subst f4_; subst f5_))
      refine hK.out _ _ ⟨bt_ BK252 0, bt_ BK252 1, bt_ BK252 2, bt_ BK252 3, bt_ BK252 4, bt_ BK252 5, bt_ BK232 0, bt_ BK232 1, bt_ BK232 2, bt_ BK232 3, bt_ BK232 4, bt_ BK232 5⟩ (fun hHeld => ?_)
      clear hK K
      refine norm_ (a' := ?_) ?_ ?_
      rotate_left
      ·show Act.put _ (some 41) _ = _
       simp only [Act.put, List.setIfInBounds_toArray, List.set_cons_zero, List.set_cons_succ, i64_w, i32_w]
       rfl
      refine one_ (i := 3) (N := some 42) (bs 5 4) rfl rfl (by kernel_rfl) (by decide) (fun K hK => ?_)
      refine goes_ Try.func29 (by kernel_rfl) rfl #[.agg #[.int .i64 t244, .int .i64 t245, .int .i64 t246, .int .i64 t247, .bool t248, .slice Ao25 t249.length co25], .agg #[.int .i64 t255, .int .i64 t256, .int .i64 t257, .int .i64 t258, .bool t259, .slice Ao34 t260.length co34]] (by rfl) rfl rfl mt_ ?_
      with_reducible refine (laws_eqBuf.calls kj11 t244 t245 t246 t247 t248 _ _ t249 t255 t256 t257 t258 t259 _ _ t260 true _ ?side1 ?side2 ?side3 ?side4 A30.out).mono ?_
      (case side1 => repeat (first | exact (Kd.S_reads' HO_253005.out).2.2 | (with_reducible refine Kd.C_alloc ?_ _) | (with_reducible refine Kd.C_drewN ?_ _) | (with_reducible refine Kd.C_drew ?_)))
      (case side2 => exact (Kd.S_reads' HO_253005.out).2.1)
      (case side3 => repeat (first | exact (Kd.S_reads' HO262.out).2.2 | (with_reducible refine Kd.C_alloc ?_ _) | (with_reducible refine Kd.C_drewN ?_ _) | (with_reducible refine Kd.C_drew ?_)))
      (case side4 => exact (Kd.S_reads' HO262.out).2.1)
      rintro e w35 ⟨rfl, hb⟩
      refine ⟨_, rfl, ?_⟩
      have n0_ := Aside0.mk (Kd.S_below (by (with_reducible repeat (first | apply Kd.S_alloc | apply Kd.S_drewN | apply Kd.S_drew)); exact HO_253005.out) hb)
      have n1_ := Aside0.mk (Kd.S_below (by (with_reducible repeat (first | apply Kd.S_alloc | apply Kd.S_drewN | apply Kd.S_drew)); exact HO262.out) hb)
      have n2_ := bb_ BK232 hb; have n3_ := bb_ BK252 hb; have n4_ := Aside0.mk (below_step (bf_ HB) hb); clear HO_253005; clear HO262; clear BK232; clear BK252; clear HB; have HO_253005 := n0_; have HO262 := n1_; have BK232 := n2_; have BK252 := n3_; have HB := n4_; clear n0_ n1_ n2_ n3_ n4_; (try clear hb); (try clear hb2); (try clear hk); (try clear hi)
      refine hK.out _ _ ⟨bt_ BK252 0, bt_ BK252 1, bt_ BK252 2, bt_ BK252 3, bt_ BK252 4, bt_ BK252 5, bt_ BK232 0, bt_ BK232 1, bt_ BK232 2, bt_ BK232 3, bt_ BK232 4, bt_ BK232 5⟩ (fun hHeld => ?_)
      clear hK K
      refine norm_ (a' := ?_) ?_ ?_
      rotate_left
      ·show Act.put _ (some 42) _ = _
       simp only [Act.put, List.setIfInBounds_toArray, List.set_cons_zero, List.set_cons_succ, i64_w, i32_w]
       rfl
      refine pure_s (i := 4) (N := some 43) (bs 5 5) (by kernel_rfl) (h := ?_)
      refine done_ (by kernel_rfl) ?_
      try go_wp2
      go_ret
      exact ⟨by first | rfl | (simp [errW_none, errW_some] <;> rfl) | (simp [*, errW_none, errW_some] <;> rfl), bf_ HB⟩
     ·replace c31 := Bool.eq_false_iff.mpr c31
      subst c31
      have H1 : (some false) = some r := by rw [if_neg (show ¬ (false = true) by decide)] at H; exact H
      clear H
      have H := H1
      clear H1
      obtain rfl := Option.some.inj H
      try go_wp2
      have n0_ := Aside0.mk (Kd.S_drew HO_253005.out); have n1_ := Aside0.mk (blk_drew BK232.out); have n2_ := Aside0.mk (blk_drew BK252.out); have n3_ := Aside0.mk (below_drew1 HB.out); clear HO_253005; clear BK232; clear BK252; clear HB; have HO_253005 := n0_; have BK232 := n1_; have BK252 := n2_; have HB := n3_; clear n0_ n1_ n2_ n3_
      refine start_ (n := 5) (S := fun w' => w'.cell? ⟨gb252, 0, none⟩ = some (.int .i64 t244) ∧ w'.cell? ⟨gb252, 1, none⟩ = some (.int .i64 t245) ∧ w'.cell? ⟨gb252, 2, none⟩ = some (.int .i64 t246) ∧ w'.cell? ⟨gb252, 3, none⟩ = some (.int .i64 t247) ∧ w'.cell? ⟨gb252, 4, none⟩ = some (.bool t248) ∧ w'.cell? ⟨gb252, 5, none⟩ = some (.slice Ao25 t249.length co25) ∧ w'.cell? ⟨gb232, 0, none⟩ = some (.int .i64 a0_0) ∧ w'.cell? ⟨gb232, 1, none⟩ = some (.int .i64 a0_1) ∧ w'.cell? ⟨gb232, 2, none⟩ = some (.int .i64 a0_2) ∧ w'.cell? ⟨gb232, 3, none⟩ = some (.int .i64 a0_3) ∧ w'.cell? ⟨gb232, 4, none⟩ = some (.bool a0_4) ∧ w'.cell? ⟨gb232, 5, none⟩ = some (.slice A0_5 l0_5.length c0_5)) (ds := []) (bs 5 0) (by kernel_rfl) rfl rfl ⟨bt_ BK252 0, bt_ BK252 1, bt_ BK252 2, bt_ BK252 3, bt_ BK252 4, bt_ BK252 5, bt_ BK232 0, bt_ BK232 1, bt_ BK232 2, bt_ BK232 3, bt_ BK232 4, bt_ BK232 5⟩ (fun hHeld => ?_)
      generalize wc.drew = w36 at HO_253005 BK232 BK252 HB hHeld ⊢
      refine take_ (i := 0) (N := some 39) (v := ?_) (a' := ?_) (bs 5 1) rfl rfl (by kernel_rfl) (fun _ _ _ h => h) (Or.inl ⟨by rfl, ?_⟩) hHeld ?_ ?_
      rotate_left
      ·rintro w' ⟨s0, s1, s2, s3, s4, s5, s6, s7, s8, s9, s10, s11⟩
       go_simp
       with_reducible rfl
      rotate_left
      ·simp only [Act.put, List.setIfInBounds_toArray, List.set_cons_zero, List.set_cons_succ, i64_w, i32_w]
       rfl
      refine take_ (i := 1) (N := some 40) (v := ?_) (a' := ?_) (bs 5 2) rfl rfl (by kernel_rfl) (fun _ _ _ h => h) (Or.inl ⟨by rfl, ?_⟩) hHeld ?_ ?_
      rotate_left
      ·rintro w' ⟨s0, s1, s2, s3, s4, s5, s6, s7, s8, s9, s10, s11⟩
       go_simp
       with_reducible rfl
      rotate_left
      ·simp only [Act.put, List.setIfInBounds_toArray, List.set_cons_zero, List.set_cons_succ, i64_w, i32_w]
       rfl
      refine one_ (i := 2) (N := some 41) (bs 5 3) rfl rfl (by kernel_rfl) (by decide) (fun K hK => ?_)
      refine goes_ Try.func26 (by kernel_rfl) rfl #[.agg #[.int .i64 a0_0, .int .i64 a0_1, .int .i64 a0_2, .int .i64 a0_3, .bool a0_4, .slice A0_5 l0_5.length c0_5]] (by rfl) rfl rfl mt_ ?_
      with_reducible refine (laws_toBuf.calls kj11 a0_0 a0_1 a0_2 a0_3 a0_4 _ _ l0_5 t255 t256 t257 t258 t259 t260 _ ?side1 ?side2 A29.out).mono ?_
      (case side1 => repeat (first | exact (Kd.C_below HR0_5.out HB.out) | (with_reducible refine Kd.C_alloc ?_ _) | (with_reducible refine Kd.C_drewN ?_ _) | (with_reducible refine Kd.C_drew ?_)))
      (case side2 => exact HC0_5.out)
      rintro e w37 ⟨v261, rfl, ho0, hb⟩
      refine ⟨_, rfl, ?_⟩
      have n0_ := Aside0.mk (Kd.S_elder' (by (with_reducible repeat (first | apply Kd.S_alloc | apply Kd.S_drewN | apply Kd.S_drew)); exact HO_253005.out) (Kd.S_base ho0) hb)
      have n1_ := Aside0.mk (Kd.S_lower (Kd.S_new' ho0 (Kd.S_lt (by (with_reducible repeat (first | apply Kd.S_alloc | apply Kd.S_drewN | apply Kd.S_drew)); exact HO_253005.out))) (below_size (bf_ HB)))
      have n2_ := bb_ BK232 hb; have n3_ := bb_ BK252 hb; have n4_ := Aside0.mk (below_step (bf_ HB) hb); clear HO_253005; clear BK232; clear BK252; clear HB; have HO_253005 := n0_; have HO262 := n1_; have BK232 := n2_; have BK252 := n3_; have HB := n4_; clear n0_ n1_ n2_ n3_ n4_; (try clear hb); (try clear hb2); (try clear hk); (try clear hi); (try clear ho0)
      obtain ⟨Ao38, co38, eo38⟩ := Kd.S_slice HO262.out
      (first | subst eo38 | (injection eo38 with f1_ f2_ f3_; have f4_ := f1_.symm; have f5_ := f3_.symm; clear f1_ f2_ f3_; subst f4_; subst f5_))
      refine hK.out _ _ ⟨bt_ BK252 0, bt_ BK252 1, bt_ BK252 2, bt_ BK252 3, bt_ BK252 4, bt_ BK252 5, bt_ BK232 0, bt_ BK232 1, bt_ BK232 2, bt_ BK232 3, bt_ BK232 4, bt_ BK232 5⟩ (fun hHeld => ?_)
      clear hK K
      refine norm_ (a' := ?_) ?_ ?_
      rotate_left
      ·show Act.put _ (some 41) _ = _
       simp only [Act.put, List.setIfInBounds_toArray, List.set_cons_zero, List.set_cons_succ, i64_w, i32_w]
       rfl
      refine one_ (i := 3) (N := some 42) (bs 5 4) rfl rfl (by kernel_rfl) (by decide) (fun K hK => ?_)
      refine goes_ Try.func29 (by kernel_rfl) rfl #[.agg #[.int .i64 t244, .int .i64 t245, .int .i64 t246, .int .i64 t247, .bool t248, .slice Ao25 t249.length co25], .agg #[.int .i64 t255, .int .i64 t256, .int .i64 t257, .int .i64 t258, .bool t259, .slice Ao38 t260.length co38]] (by rfl) rfl rfl mt_ ?_
      with_reducible refine (laws_eqBuf.calls kj11 t244 t245 t246 t247 t248 _ _ t249 t255 t256 t257 t258 t259 _ _ t260 false _ ?side1 ?side2 ?side3 ?side4 A30.out).mono ?_
      (case side1 => repeat (first | exact (Kd.S_reads' HO_253005.out).2.2 | (with_reducible refine Kd.C_alloc ?_ _) | (with_reducible refine Kd.C_drewN ?_ _) | (with_reducible refine Kd.C_drew ?_)))
      (case side2 => exact (Kd.S_reads' HO_253005.out).2.1)
      (case side3 => repeat (first | exact (Kd.S_reads' HO262.out).2.2 | (with_reducible refine Kd.C_alloc ?_ _) | (with_reducible refine Kd.C_drewN ?_ _) | (with_reducible refine Kd.C_drew ?_)))
      (case side4 => exact (Kd.S_reads' HO262.out).2.1)
      rintro e w39 ⟨rfl, hb⟩
      refine ⟨_, rfl, ?_⟩
      have n0_ := Aside0.mk (Kd.S_below (by (with_reducible repeat (first | apply Kd.S_alloc | apply Kd.S_drewN | apply Kd.S_drew)); exact HO_253005.out) hb)
      have n1_ := Aside0.mk (Kd.S_below (by (with_reducible repeat (first | apply Kd.S_alloc | apply Kd.S_drewN | apply Kd.S_drew)); exact HO262.out) hb)
      have n2_ := bb_ BK232 hb; have n3_ := bb_ BK252 hb; have n4_ := Aside0.mk (below_step (bf_ HB) hb); clear HO_253005; clear HO262; clear BK232; clear BK252; clear HB; have HO_253005 := n0_; have HO262 := n1_; have BK232 := n2_; have BK252 := n3_; have HB := n4_; clear n0_ n1_ n2_ n3_ n4_; (try clear hb); (try clear hb2); (try clear hk); (try clear hi)
      refine hK.out _ _ ⟨bt_ BK252 0, bt_ BK252 1, bt_ BK252 2, bt_ BK252 3, bt_ BK252 4, bt_ BK252 5, bt_ BK232 0, bt_ BK232 1, bt_ BK232 2, bt_ BK232 3, bt_ BK232 4, bt_ BK232 5⟩ (fun hHeld => ?_)
      clear hK K
      refine norm_ (a' := ?_) ?_ ?_
      rotate_left
      ·show Act.put _ (some 42) _ = _
       simp only [Act.put, List.setIfInBounds_toArray, List.set_cons_zero, List.set_cons_succ, i64_w, i32_w]
       rfl
      refine pure_s (i := 4) (N := some 43) (bs 5 5) (by kernel_rfl) (h := ?_)
      refine done_ (by kernel_rfl) ?_
      try go_wp2
      go_ret
      exact ⟨by first | rfl | (simp [errW_none, errW_some] <;> rfl) | (simp [*, errW_none, errW_some] <;> rfl), bf_ HB⟩

/-! What is told of arguments that came in -/
def W37 (x : S37) : Prop := ((Lit.int .i64 x.f0).wf = true) ∧ ((Lit.int .i64 x.f1).wf = true) ∧ ((Lit.int .i64 x.f2).wf = true) ∧ ((Lit.int .i64 x.f3).wf = true) ∧ (True)
def W42 (x : S42) : Prop := ((Lit.int .i64 x.f0).wf = true) ∧ ((Lit.int .i64 x.f1).wf = true)
def W133 (x : S133) : Prop := ((Lit.int .i64 x.f0).wf = true) ∧ ((x.f1.length ≤ maxLen ∧ ∀ y_ ∈ x.f1, W42 y_))
def W40 (x : S40) : Prop := (W37 x.f0) ∧ ((x.f1.length ≤ maxLen ∧ ∀ y_ ∈ x.f1, W133 y_))
/-- THE ONE PURE STATEMENT of laws_FnExactBufLaneOf: yours. -/
def laws_FnExactBufLaneOf.Pure : Prop := ∀ (a0_0 : Int) (a0_1 : Int) (a0_2 : Int) (a0_3 : Int) (a0_4 : Bool) (l0_5 : List (S133)) (a1 : Int), W40 (⟨(⟨a0_0, a0_1, a0_2, a0_3, a0_4⟩ : S37), l0_5⟩ : S40) → (Lit.int .i64 a1).wf = true → ∃ k, laws_FnExactBufLaneOf.f k a0_0 a0_1 a0_2 a0_3 a0_4 l0_5 a1 = some true
theorem laws_FnExactBufLaneOf.walk (P : laws_FnExactBufLaneOf.Pure) (w : World) (x0 : S40) (A0_5 : Option Addr) (c0_5 : Nat) (hc0_5 : x0.f1.length ≤ c0_5) (hr0_5 : Kd.C k133 w A0_5 x0.f1.length x0.f1) (hw0 : W40 x0) (a1 : Int) (hw1 : (Lit.int .i64 a1).wf = true) :
  Calls Try.prog 10 #[.agg #[.int .i64 x0.f0.f0, .int .i64 x0.f0.f1, .int .i64 x0.f0.f2, .int .i64 x0.f0.f3, .bool x0.f0.f4, .slice A0_5 x0.f1.length c0_5], .int .i64 a1] w fun e w' => e = .returned (.bool true) ∧ Below w.heap.size w w' := by
 obtain ⟨k, h⟩ := P (x0.f0.f0) (x0.f0.f1) (x0.f0.f2) (x0.f0.f3) (x0.f0.f4) (x0.f1) a1 hw0 hw1
 refine (laws_FnExactBufLaneOf.calls k (x0.f0.f0) (x0.f0.f1) (x0.f0.f2) (x0.f0.f3) (x0.f0.f4) A0_5 c0_5 x0.f1 a1 true w hr0_5 hc0_5 h).mono ?_
 rintro e w' ⟨rfl, hd⟩
 exact ⟨rfl, hd⟩

end Go.Proofs.Ytnklakficjpmoaa.PFnExactBufLaneOf
