-- printed by a program of this session (wip/printx) out of the translation; Lean checks it
import Derived.Test.YtnklakficjpmoaaVFnExactHeapDrop
import Derived.Test.YtnklakficjpmoaaPFnExactHeapDropx0
import Derived.Test.YtnklakficjpmoaaPFnExactHeapDropx3
namespace Go.Proofs.Ytnklakficjpmoaa.PFnExactHeapDrop
open Go.RowKit Go.Proofs.YtnklakficjpmoaaW.PrintWords Go.Proofs.YtnklakficjpmoaaW.PrintLast Go.Proofs.YtnklakficjpmoaaW.PrintMore
attribute [local go_sem] max2_int min2_int max_two min_two max_three min_three max_four min_four   -- for this text's walks alone
set_option linter.unusedVariables false
set_option linter.unusedSimpArgs false

/-! ### impl_Heap_place: function 95 (wip/hand) -/
theorem impl_Heap_place.pred (id : Int) (B : Nat) (w W : World) (hB : B < w.heap.size) (hc : w.cell? ⟨B, 0, none⟩ = some (.int .i64 id)) (hb : Below w.heap.size w W) (x : S68) :
    Calls Try.prog 134 #[.agg #[.int .i64 x.f0, .int .i64 x.f1], .pointer (some ⟨B, 0, none⟩)] W fun e w' => e = .returned (.bool (x.f1 == id)) ∧ Below w.heap.size w w' := by
  have hc' : W.cell? ⟨B, 0, none⟩ = some (.int .i64 id) := (hb.cell (p := ⟨B, 0, none⟩) hB).trans hc
  have hBW : B < W.heap.size := Nat.lt_of_lt_of_le hB hb.size
  have hne : B ≠ W.heap.size := by omega
  go_enter Try.func134, Try.ntmps134
  go_wp2
  all_goals (go_ret; exact ⟨by simp_all, hb.alloc hb.size _⟩)
theorem impl_Heap_place.idx_at {l0 : List S68} {i : Int} (h0 : 0 ≤ i) (h1 : i < (l0.length : Int)) : l0[i.toNat]? = some (rd_T68 l0 i) := by
  unfold rd_T68
  rw [List.getD_eq_getElem?_getD, List.getElem?_eq_getElem (by omega)]; rfl
set_option maxHeartbeats 2000000 in
theorem impl_Heap_place.idx_calls (p : S68 → Bool) (lb : Array Value) (A0 : Option Addr) (c0 : Nat) (l0 : List S68) (w : World) (hr0 : Kd.C k68 w A0 l0.length l0) (hc0 : l0.length ≤ c0) (hbig : l0.length ≤ 9223372036854775806)
    (hp : ∀ (W : World) (x : S68), Below w.heap.size w W → Calls Try.prog 134 (#[.agg #[.int .i64 x.f0, .int .i64 x.f1]] ++ lb) W fun e w' => e = .returned (.bool (p x)) ∧ Below w.heap.size w w') :
    Calls Try.prog 133 #[.slice A0 l0.length c0, .func (.func 134) #[] lb] w fun e w' => e = .returned (.int .i64 (idxP p l0)) ∧ Below w.heap.size w w' := by
  have hu68 := Try.underlying68
  have HR0 := Aside0.mk hr0
  have HC0 := Aside0.mk hc0
  have HN := Aside0.mk hbig
  have HP := Aside0.mk hp
  clear hr0 hc0 hbig hp
  go_enter Try.func133, Try.ntmps133
  go_wp2
  go_loopg [5, 8] l0.length (fun gg _ s8 wr => ∃ i : Int, s8 = .int .i64 i ∧ Aside0 (0 ≤ i ∧ i ≤ (l0.length : Int) ∧ l0.length - i.toNat ≤ gg) ∧ Aside0 (Below w.heap.size w wr) ∧ Aside0 (∀ (j : Nat) y, (j : Int) < i → l0[j]? = some y → p y = false))
  case atStart => exact ⟨0, rfl, ⟨by omega, by omega, by omega⟩, ⟨Below.refl _ w⟩, ⟨fun j y hj => by omega⟩⟩
  case round =>
    obtain ⟨i, rfl, HI, HB, A⟩ := hrel
    by_cases c6 : i < (l0.length : Int)
    · have c6b0 : decide (i < (l0.length : Int)) = true := decide_eq_true c6
      have p115 : 0 ≤ i := HI.out.1
      obtain ⟨ad115, e115, hx115_0, hx115_1⟩ := at_T68 HR0.out i p115 c6
      have HX := Aside0.mk (impl_Heap_place.idx_at p115 c6)
      have q115 := c6
      clear c6
      cases e115
      replace hx115_0 := hb_ HB hx115_0
      replace hx115_1 := hb_ HB hx115_1
      have HQ := Aside0.mk q115
      replace p115 := eq_true p115
      replace q115 := eq_true q115
      have hcall := HP.out wr (rd_T68 l0 i) HB.out
      generalize rd_T68 l0 i = x at *
      cases hq : p x with
      | true =>
        rw [hq] at hcall
        have HQ1 := Aside0.mk hq
        clear hq
        go_wp2_with (go_at_call 134; refine hcall.mono ?_; rintro e w' ⟨rfl, hb'⟩)
        go_ret
        refine ⟨?_, hb'⟩
        rw [idxP_hit l0 i.toNat x HX.out HQ1.out (fun j y hj => A.out j y (by omega)), Int.toNat_of_nonneg HI.out.1]
        rfl
      | false =>
        rw [hq] at hcall
        have HQ1 := Aside0.mk hq
        clear hq
        go_wp2_with (go_at_call 134; refine hcall.mono ?_; rintro e w' ⟨rfl, hb'⟩)
        go_roundg (l0.length - (i.toNat + 1))
        case measure => have := HI.out; have := HQ.out; omega
        case rel =>
          have h1 := HI.out
          have h2 := HQ.out
          have h3 := HN.out
          refine ⟨i + 1, by rw [show wrap64 (i + 1) = i + 1 by unfold wrap64; omega], ⟨by omega, by omega, by omega⟩, ⟨hb'⟩, ⟨fun j y hj hy => ?_⟩⟩
          by_cases e : j = i.toNat
          · subst e
            rw [HX.out] at hy
            cases hy
            exact HQ1.out
          · exact A.out j y (by omega) hy
    · have c6b0 : decide (i < (l0.length : Int)) = false := decide_eq_false c6
      have HQ := Aside0.mk c6
      clear c6
      go_wp2
      go_ret
      refine ⟨?_, HB.out⟩
      rw [idxP_miss l0 (fun j y hy => by
        have := HQ.out
        by_cases hj : j < l0.length
        · exact A.out j y (by omega) hy
        · rw [List.getElem?_eq_none (by omega)] at hy; cases hy)]
      rfl
def impl_Heap_place.f (l0_0 : List (S68)) (a1 : Int) : Option (Int) := if l0_0.length ≤ 9223372036854775806 then some (idxP (fun x => x.f1 == a1) l0_0) else none
set_option maxHeartbeats 8000000 in
set_option maxRecDepth 100000 in
theorem impl_Heap_place.calls (A0_0 : Option Addr) (c0_0 : Nat) (l0_0 : List (S68)) (a1 : Int) (r : Int) (w : World) (hr0_0 : Kd.C k68 w A0_0 l0_0.length l0_0) (hc0_0 : l0_0.length ≤ c0_0) (h : impl_Heap_place.f l0_0 a1 = some r) :
  Calls Try.prog 95 #[.agg #[.slice A0_0 l0_0.length c0_0], .int .i64 a1] w fun e w' => e = .returned (.int .i64 r) ∧ Below w.heap.size w w' := by
  have hu29 := Try.underlying29
  unfold impl_Heap_place.f at h
  split at h
  case isFalse => cases h
  rename_i hbig
  obtain rfl := Option.some.inj h
  have HC := fun (W : World) (B : Nat) (hw : Below w.heap.size w W) (hB : B < W.heap.size) (hc : W.cell? ⟨B, 0, none⟩ = some (.int .i64 a1)) =>
    (impl_Heap_place.idx_calls (fun x => x.f1 == a1) #[.pointer (some ⟨B, 0, none⟩)] A0_0 c0_0 l0_0 W (Kd.C_below hr0_0 hw) hc0_0 hbig (fun W' x hb => impl_Heap_place.pred a1 B W W' hB hc hb x)).mono (fun e w' (hh : _ ∧ _) => (⟨hh.1, hw.trans (hh.2.mono hw.size)⟩ : _ ∧ Below w.heap.size w w'))
  have HC' := Aside0.mk HC
  clear HC hr0_0 hc0_0 hbig h
  have HB := Aside0.mk (Below.refl w.heap.size w)
  go_enter Try.func95, Try.ntmps95
  go_wp2_with (go_at_call 133; refine (HC'.out _ _ ?hbe ?hlt ?hce).mono ?_; (case hbe => repeat (first | (with_reducible first | exact HB.out | apply below_alloc | apply pw_below_drewN | apply below_drew1) | exact HB.out)); (case hlt => simp); (case hce => simp); rintro e w' ⟨rfl, hb'⟩)
  go_ret
  exact ⟨rfl, hb'⟩

/-! ### impl_within: function 118 -/
def impl_within.f (a0 : Int) (a1 : Int) (a2 : Int) : Option (Bool) := if a0 ≥ a1 then (some (decide (a0 ≤ a2))) else (some false)
set_option maxHeartbeats 8000000 in
set_option maxRecDepth 100000 in
theorem impl_within.calls (a0 : Int) (a1 : Int) (a2 : Int) (r : Bool) (w : World) (h : impl_within.f a0 a1 a2 = some r) :
  Calls Try.prog 118 #[.int .i64 a0, .int .i64 a1, .int .i64 a2] w fun e w' => e = .returned (.bool r) ∧ Drawn0 w w' := by
 have H := h
 clear h
 unfold impl_within.f at H
 by_cases c4 : a0 ≥ a1
 ·rw [if_pos c4] at H
  have c4b0 : decide (a1 ≤ a0) = true := decide_eq_true c4
  clear c4
  obtain rfl := Option.some.inj H
  go_enter Try.func118, Try.ntmps118
  go_wp2
  go_ret
  exact ⟨by first | rfl | (simp; done) | (simp [*]; done), by repeat (first | exact Drawn0.refl _ | apply Drawn0.step)⟩
 ·rw [if_neg c4] at H
  have c4b0 : decide (a1 ≤ a0) = false := decide_eq_false c4
  clear c4
  obtain rfl := Option.some.inj H
  go_enter Try.func118, Try.ntmps118
  go_wp2
  go_ret
  exact ⟨by first | rfl | (simp; done) | (simp [*]; done), by repeat (first | exact Drawn0.refl _ | apply Drawn0.step)⟩

/-! ### impl_ItemOk: function 101 -/
def impl_ItemOk.f (a0_0 : Int) (a0_1 : Int) : Option (Bool) := (impl_within.f a0_0 0 1000000000000).bind fun t204 => (if t204 = true then ((impl_within.f a0_1 0 9999).bind fun t205 => (some t205)) else (some false))
set_option maxHeartbeats 8000000 in
set_option maxRecDepth 100000 in
theorem impl_ItemOk.calls (a0_0 : Int) (a0_1 : Int) (r : Bool) (w : World) (h : impl_ItemOk.f a0_0 a0_1 = some r) :
  Calls Try.prog 101 #[.agg #[.int .i64 a0_0, .int .i64 a0_1]] w fun e w' => e = .returned (.bool r) ∧ Below w.heap.size w w' := by
 have hu68 := Try.underlying68; have HB := Aside0.mk (Below.refl w.heap.size w)
 have H := h
 clear h
 unfold impl_ItemOk.f at H
 replace H := Option.bind_eq_some_iff.mp H
 obtain ⟨t204, A20, H⟩ := H
 have A2 := Aside0.mk A20
 clear A20
 by_cases c3 : t204 = true
 ·subst c3
  rw [if_pos rfl] at H
  replace H := Option.bind_eq_some_iff.mp H
  obtain ⟨t205, A40, H⟩ := H
  have A4 := Aside0.mk A40
  clear A40
  obtain rfl := Option.some.inj H
  go_enter Try.func101, Try.ntmps101
  go_wp2_with (first | ((with_reducible refine gd_ 1 rfl ?_); refine bv_ 1 #[.int .i64 a0_0, .int .i64 a0_1] 68 ?_; intro gb203 hg w5 hbox hb; have BK203 := Aside0.mk (hbox); have GW203 := gw_ HB hg; have GE203 := gw_ HB hg; replace HB := Aside0.mk (below_step (be_ HB) hb); clear hb hbox hg; obtain ⟨hcz6_0, hcz6_1, hfz6_0, hfz6_1⟩ := bz2_ BK203) | ((with_reducible refine gc_ 118 rfl ?_); refine gl_ 5 Try.func118 #[.int .i64 a0_0, .int .i64 0, .int .i64 1000000000000] ?_; (with_reducible refine (impl_within.calls a0_0 0 1000000000000 true _ A2.out).mono ?_); rintro e w' ⟨rfl, ⟨nd, rfl⟩⟩; refine ⟨_, rfl, ?_⟩) | (go_at_call 118; (with_reducible refine (impl_within.calls a0_1 0 9999 t205 _ A4.out).mono ?_); rintro e w' ⟨rfl, ⟨nd, rfl⟩⟩))
  go_ret
  exact ⟨by first | rfl | (simp [errW_none, errW_some] <;> rfl) | (simp [*, errW_none, errW_some] <;> rfl), bf_ HB⟩
 ·replace c3 := Bool.eq_false_iff.mpr c3
  subst c3
  rw [if_neg (show ¬ (false = true) by decide)] at H
  obtain rfl := Option.some.inj H
  go_enter Try.func101, Try.ntmps101
  go_wp2_with (first | ((with_reducible refine gd_ 1 rfl ?_); refine bv_ 1 #[.int .i64 a0_0, .int .i64 a0_1] 68 ?_; intro gb203 hg w7 hbox hb; have BK203 := Aside0.mk (hbox); have GW203 := gw_ HB hg; have GE203 := gw_ HB hg; replace HB := Aside0.mk (below_step (be_ HB) hb); clear hb hbox hg; obtain ⟨hcz8_0, hcz8_1, hfz8_0, hfz8_1⟩ := bz2_ BK203) | ((with_reducible refine gc_ 118 rfl ?_); refine gl_ 5 Try.func118 #[.int .i64 a0_0, .int .i64 0, .int .i64 1000000000000] ?_; (with_reducible refine (impl_within.calls a0_0 0 1000000000000 false _ A2.out).mono ?_); rintro e w' ⟨rfl, ⟨nd, rfl⟩⟩; refine ⟨_, rfl, ?_⟩))
  go_ret
  exact ⟨by first | rfl | (simp [errW_none, errW_some] <;> rfl) | (simp [*, errW_none, errW_some] <;> rfl), bf_ HB⟩

/-! ### impl_HeapOk: function 41 -/
def impl_HeapOk.l0 : Nat → List (S68) → Int → Int → List (S68) → Option (Bool)
  | 0, _, _, _, _ => none
  | k + 1, x6, x7, x8, x207000 => if x8 < x7 then (if 0 ≤ x8 then (if x8 < (x6.length : Int) then ((impl_ItemOk.f ((rd_T68 x6 x8).f0) ((rd_T68 x6 x8).f1)).bind fun t209 => (if t209 = true then ((impl_Heap_place.f x207000 ((rd_T68 x6 x8).f1)).bind fun t210 => (if t210 = x8 then (if x8 > 0 then (if 0 ≤ (wrap64 (Int.tdiv (wrap64 (x8 - 1)) 2)) then (if (wrap64 (Int.tdiv (wrap64 (x8 - 1)) 2)) < (x207000.length : Int) then ((impl_Ahead.f ((rd_T68 x6 x8).f0) ((rd_T68 x6 x8).f1) ((rd_T68 x207000 (wrap64 (Int.tdiv (wrap64 (x8 - 1)) 2))).f0) ((rd_T68 x207000 (wrap64 (Int.tdiv (wrap64 (x8 - 1)) 2))).f1)).bind fun t212 => (if t212 = true then (some false) else (impl_HeapOk.l0 k x6 x7 (wrap64 (x8 + 1)) x207000))) else (none)) else (none)) else (impl_HeapOk.l0 k x6 x7 (wrap64 (x8 + 1)) x207000)) else (some false))) else (some false))) else (none)) else (none)) else (some (decide ((x207000.length : Int) ≤ 64)))
def impl_HeapOk.f (k : Nat) (l0_0 : List (S68)) : Option (Bool) := impl_HeapOk.l0 k l0_0 (l0_0.length : Int) 0 l0_0
theorem impl_HeapOk.mono_l : ∀ k, (∀ y0 y1 y2 y3, LeO (impl_HeapOk.l0 k y0 y1 y2 y3) (impl_HeapOk.l0 (k + 1) y0 y1 y2 y3))
 | 0 => fun _ _ _ _ r h => by simp [impl_HeapOk.l0] at h
 | k + 1 => by
  have ih0 := impl_HeapOk.mono_l k
  ·intro y0 y1 y2 y3
   unfold impl_HeapOk.l0
   repeat' (first | (with_reducible exact ih0 ..) | (with_reducible exact LeO.refl _) | (with_reducible exact LeO.none _) | (with_reducible refine LeO.ite ?_ ?_) | (with_reducible refine LeO.bind ?_ (fun _ => ?_)) | exact ih0 .. | exact LeO.none _ | refine LeO.ite ?_ ?_ | refine LeO.bind ?_ (fun _ => ?_))
theorem impl_HeapOk.mono : ∀ a0 k, LeO (impl_HeapOk.f k a0) (impl_HeapOk.f (k + 1) a0) := by
 intro a0 k
 have ih0 := impl_HeapOk.mono_l k
 unfold impl_HeapOk.f
 repeat' (first | (with_reducible exact ih0 ..) | (with_reducible exact LeO.refl _) | (with_reducible exact LeO.none _) | (with_reducible refine LeO.ite ?_ ?_) | (with_reducible refine LeO.bind ?_ (fun _ => ?_)) | exact ih0 .. | exact LeO.none _ | refine LeO.ite ?_ ?_ | refine LeO.bind ?_ (fun _ => ?_))
def impl_HeapOk.T4 : Bool × List (List Nat × List Nat) := (true, [([], []), ([0], [0]), ([1], [1]), ([2, 1], [2]), ([3], [3]), ([3], [3]), ([5, 3], [3, 5]), ([4, 6, 3, 3], [3, 4, 6]), ([3], [3]), ([7, 8, 3], [3, 7, 8]), ([3, 9], [3, 9]), ([10, 7], [10]), ([11], [11]), ([12, 11], [11, 12]), ([13, 11, 11], [11, 13]), ([14], [14]), ([14], [14]), ([16, 14], [14, 16]), ([14], [14]), ([18, 14], [14, 18]), ([19, 14], [14, 19]), ([17, 20, 14], [14, 17, 20]), ([21, 14], [14, 21]), ([15, 22, 14, 14], [14, 15, 22]), ([14, 23, 11], [11, 14, 23]), ([11, 24], [11, 24])])
def impl_HeapOk.B4 : List Nat := [0, 1, 3, 7, 15, 15, 47, 127, 15, 511, 1023, 2047, 4095, 8191, 16383, 32767, 32767, 98303, 32767, 294911, 819199, 2064383, 4161535, 8388607, 16777215, 33554431]
theorem impl_HeapOk.tab4 : rtab .any (opsOf Try.f41 4) = impl_HeapOk.T4 := by kernel_rfl
theorem impl_HeapOk.bits4 : waitsOk impl_HeapOk.T4.2 impl_HeapOk.B4 = true := by kernel_rfl
set_option maxHeartbeats 8000000 in
set_option maxRecDepth 100000 in
theorem impl_HeapOk.calls (k : Nat) (A0_0 : Option Addr) (c0_0 : Nat) (l0_0 : List (S68)) (r : Bool) (w : World) (hr0_0 : Kd.C k68 w A0_0 l0_0.length l0_0) (hc0_0 : l0_0.length ≤ c0_0) (h : impl_HeapOk.f k l0_0 = some r) :
  Calls Try.prog 41 #[.agg #[.slice A0_0 l0_0.length c0_0]] w fun e w' => e = .returned (.bool r) ∧ Below w.heap.size w w' := by
 have hu29 := Try.underlying29; have hu68 := Try.underlying68
 have HR0_0 := Aside0.mk hr0_0
 have HC0_0 := Aside0.mk hc0_0
 clear hr0_0 hc0_0; have HB := Aside0.mk (Below.refl w.heap.size w)
 have H := h
 clear h
 unfold impl_HeapOk.f at H
 have H' := Aside0.mk H
 clear H
 go_enter Try.func41, Try.ntmps41
 go_wp2_with (first | ((with_reducible refine gd_ 1 rfl ?_); refine bv_ 1 #[.slice A0_0 l0_0.length c0_0] 29 ?_; intro gb206 hg w2 hbox hb; have BK206 := Aside0.mk (hbox); have GW206 := gw_ HB hg; have GE206 := gw_ HB hg; replace HB := Aside0.mk (below_step (be_ HB) hb); clear hb hbox hg; obtain ⟨hcz3_0, hfz3_0⟩ := bz1_ BK206))
 (try simp only [Act.put, ls0_, ls1_, ls2_])
 go_loopg [8] k (fun kq v8 w' => ∃ (x8_1 : Int), v8 = .int .i64 x8_1 ∧ Aside0 (impl_HeapOk.l0 kq l0_0 (l0_0.length : Int) x8_1 l0_0 = some r) ∧ Aside0 (kq ≤ k) ∧ Aside0 (w'.heap[gb206]? = some (.cells #[(.slice A0_0 l0_0.length c0_0)] 29 (0, 0))) ∧ Aside0 (Below w.heap.size w w'))
 case atStart => exact ⟨(0), (by first | rfl | (simp; done) | (simp [*]; done)), H', ⟨Nat.le_refl _⟩, ⟨bk_ BK206⟩, ⟨bf_ HB⟩⟩
 case round =>
  clear H'
  (try clear p2); (try clear hcz3_0 hfz3_0)
  obtain ⟨x8_1, rfl, HA, HK1, BK206, HB⟩ := hrel
  cases gk with
  | zero => exact absurd HA.out (by simp [impl_HeapOk.l0])
  | succ k1 =>
   have H := HA.out
   clear HA
   simp only [impl_HeapOk.l0] at H
   by_cases c4 : x8_1 < (l0_0.length : Int)
   ·rw [if_pos c4] at H
    have c4b0 : decide (x8_1 < (l0_0.length : Int)) = true := decide_eq_true c4
    clear c4
    by_cases c5 : 0 ≤ x8_1
    ·rw [if_pos c5] at H
     have c5b0 : decide (0 ≤ x8_1) = true := decide_eq_true c5
     clear c5
     by_cases c6 : x8_1 < (l0_0.length : Int)
     ·rw [if_pos c6] at H
      have c6b0 : decide (x8_1 < (l0_0.length : Int)) = true := decide_eq_true c6
      clear c6
      replace H := Option.bind_eq_some_iff.mp H
      obtain ⟨t209, A70, H⟩ := H
      have A7 := Aside0.mk A70
      clear A70
      by_cases c8 : t209 = true
      ·subst c8
       rw [if_pos rfl] at H
       replace H := Option.bind_eq_some_iff.mp H
       obtain ⟨t210, A90, H⟩ := H
       have A9 := Aside0.mk A90
       clear A90
       by_cases c10 : t210 = x8_1
       ·rw [if_pos c10] at H
        have c10b0 : (t210 == x8_1) = true := beq_iff_eq.mpr c10
        have c10b1 : (t210 != x8_1) = false := bne_eq_false_iff_eq.mpr c10
        clear c10
        by_cases c11 : x8_1 > 0
        ·rw [if_pos c11] at H
         have c11b0 : decide (0 < x8_1) = true := decide_eq_true c11
         clear c11
         obtain ⟨ji12, hji12⟩ : ∃ j_ : Int, (wrap64 (Int.tdiv (wrap64 (x8_1 - 1)) 2)) = j_ := ⟨_, rfl⟩
         replace H : (if 0 ≤ (ji12) then (if (ji12) < (l0_0.length : Int) then ((impl_Ahead.f ((rd_T68 l0_0 x8_1).f0) ((rd_T68 l0_0 x8_1).f1) ((rd_T68 l0_0 (ji12)).f0) ((rd_T68 l0_0 (ji12)).f1)).bind fun t212 => (if t212 = true then (some false) else (impl_HeapOk.l0 k1 l0_0 (l0_0.length : Int) (wrap64 (x8_1 + 1)) l0_0))) else (none)) else (none)) = some r := by first | (rw [hji12] at H; exact H) | (simp only [hji12] at H ⊢; exact H)
         (try rw [hji12] at A7)
         (try rw [hji12] at A9)
         have hji12w : (IntKind.i64.wrap (Int.tdiv (wrap64 (x8_1 - 1)) 2)) = ji12 := (i64_w _).trans hji12
         by_cases c13 : 0 ≤ (ji12)
         ·rw [if_pos c13] at H
          have c13b0 : decide (0 ≤ (ji12)) = true := decide_eq_true c13
          clear c13
          by_cases c14 : (ji12) < (l0_0.length : Int)
          ·rw [if_pos c14] at H
           have c14b0 : decide ((ji12) < (l0_0.length : Int)) = true := decide_eq_true c14
           clear c14
           replace H := Option.bind_eq_some_iff.mp H
           obtain ⟨t212, A150, H⟩ := H
           have A15 := Aside0.mk A150
           clear A150
           by_cases c16 : t212 = true
           ·subst c16
            rw [if_pos rfl] at H
            obtain rfl := Option.some.inj H
            have p207 : 0 ≤ (x8_1 : Int) := od_
            have q207 : x8_1 < (l0_0.length : Int) := od_
            obtain ⟨ad207, e207, hx207_0, hx207_1⟩ := at_T68 HR0_0.out x8_1 p207 q207
            cases e207
            replace hx207_0 := hb_ HB hx207_0
            replace hx207_1 := hb_ HB hx207_1
            replace p207 := eq_true p207
            replace q207 := eq_true q207
            try go_wp2_with (first | ((with_reducible refine gd_ 4 rfl ?_); refine bv_ 4 #[.int .i64 0, .int .i64 0] 68 ?_; intro gb208 hg w17 hbox hb; have BK208 := Aside0.mk (hbox); have GW208 := gw_ HB hg; have GE208 := gw_ HB hg; replace HB := Aside0.mk (below_step (bf_ HB) hb); have NB206_208 := nl_ BK206 hg; have NB208_206 := ng_ BK206 hg; replace BK206 := bb_ BK206 hb; clear hb hbox hg; have hnb18 := NB208_206.out; have hnc18 := NB206_208.out; obtain ⟨hcz19_0, hcz19_1, hfz19_0, hfz19_1⟩ := bz2_ BK208))
            generalize hW_ : ((w17.setCell ⟨gb208, 0, none⟩ (.int .i64 ((rd_T68 l0_0 x8_1).f0))).setCell ⟨gb208, 1, none⟩ (.int .i64 ((rd_T68 l0_0 x8_1).f1))) = w20
            replace BK206 := fc2_ hW_ BK206 NB206_208
            replace BK208 : Aside0 (w20.heap[gb208]? = some (.cells #[.int .i64 ((rd_T68 l0_0 x8_1).f0), .int .i64 ((rd_T68 l0_0 x8_1).f1)] 68 (0, 0))) := pc2_ hW_ BK208
            replace HB : Aside0 (Below w.heap.size w w20) := ⟨by cases hW_; exact bf_ HB⟩
            clear hW_; replace BK206 := Aside0.mk (blk_drew BK206.out); replace BK208 := Aside0.mk (blk_drew BK208.out); replace HB := Aside0.mk (below_drew1 HB.out)
            have p211 : 0 ≤ ((ji12) : Int) := od_
            have q211 : (ji12) < (l0_0.length : Int) := od_
            obtain ⟨ad211, e211, hx211_0, hx211_1⟩ := at_T68 HR0_0.out (ji12) p211 q211
            have hw211_1 := hx211_1; have hw211_0 := hx211_0
            obtain rfl : ad207 = ad211 := (by injection e211)
            replace hx211_0 := hb_ HB hx211_0
            replace hx211_1 := hb_ HB hx211_1
            replace p211 := eq_true p211
            replace q211 := eq_true q211
            refine start_ (n := 26) (S := fun w' => cw_ w' gb208 0 (.int .i64 ((rd_T68 l0_0 x8_1).f0)) ∧ cw_ w' gb208 1 (.int .i64 ((rd_T68 l0_0 x8_1).f1)) ∧ cw_ w' gb206 0 (.slice (some ad207) l0_0.length c0_0) ∧ w'.cell? (ad207.add (((ji12)).toNat * 2)) = some (.int .i64 ((rd_T68 l0_0 (ji12)).f0)) ∧ w'.cell? ⟨(ad207.add (((ji12)).toNat * 2)).block, (ad207.add (((ji12)).toNat * 2)).off + 1, none⟩ = some (.int .i64 ((rd_T68 l0_0 (ji12)).f1))) (ds := []) (bs 26 0) (by kernel_rfl) rfl rfl ⟨bt_ BK208 0, bt_ BK208 1, bt_ BK206 0, (hd_ HB hw211_0), (hd_ HB hw211_1)⟩ (fun hHeld => ?_); refine with_tabW impl_HeapOk.tab4 impl_HeapOk.bits4 (fun HT_ HW_ => ?_)
            generalize w20.drew = w21 at BK206 BK208 HB hx211_0 hx211_1 hHeld ⊢
            refine tkn_ HT_ HW_ hHeld ?_
            refine on_ 1 (some 14) (bs 26 2) HT_ (fun K hK => ?_)
            refine gs_ Try.func101 #[.agg #[.int .i64 ((rd_T68 l0_0 x8_1).f0), .int .i64 ((rd_T68 l0_0 x8_1).f1)]] ?_
            with_reducible refine (impl_ItemOk.calls ((rd_T68 l0_0 x8_1).f0) ((rd_T68 l0_0 x8_1).f1) true _ A7.out).mono ?_
            rintro e w22 ⟨rfl, hb⟩
            refine ⟨_, rfl, ?_⟩
            replace BK206 := bb_ BK206 hb; replace BK208 := bb_ BK208 hb; replace HB := Aside0.mk (below_step (bf_ HB) hb); (try clear hb); (try clear hb2); (try clear hk); (try clear hi)
            refine hK.out _ _ ⟨bt_ BK208 0, bt_ BK208 1, bt_ BK206 0, (hd_ HB hw211_0), (hd_ HB hw211_1)⟩ (fun hHeld => ?_)
            clear hK K
            refine norm_ (a' := ?_) ?_ ?_
            rotate_left
            ·show Act.put _ (some 14) _ = _
             simp only [Act.put, ls0_, ls1_, ls2_, i64_w, i32_w]
             rfl
            iterate 2 (refine psn_ HT_ ?_)
            refine ps_ 5 18 (bm 26 47) HT_ ?_
            refine ps_ 8 21 (bm 26 303) HT_ ?_
            refine tk_ 4 17 (bm 26 319) HT_ HW_ hHeld ?_
            refine tk_ 6 19 (bm 26 383) HT_ HW_ hHeld ?_
            refine on_ 7 (some 20) (bs 26 9) HT_ (fun K hK => ?_)
            refine gs_ Try.func95 #[.agg #[.slice (some ad207) l0_0.length c0_0], .int .i64 ((rd_T68 l0_0 x8_1).f1)] ?_
            with_reducible refine (impl_Heap_place.calls _ _ l0_0 ((rd_T68 l0_0 x8_1).f1) t210 _ ?side1 ?side2 A9.out).mono ?_
            (case side1 => repeat (first | exact (Kd.C_below HR0_0.out HB.out) | (with_reducible refine Kd.C_alloc ?_ _) | (with_reducible refine Kd.C_drewN ?_ _) | (with_reducible refine Kd.C_drew ?_)))
            (case side2 => exact HC0_0.out)
            rintro e w23 ⟨rfl, hb⟩
            refine ⟨_, rfl, ?_⟩
            replace BK206 := bb_ BK206 hb; replace BK208 := bb_ BK208 hb; replace HB := Aside0.mk (below_step (bf_ HB) hb); (try clear hb); (try clear hb2); (try clear hk); (try clear hi)
            refine hK.out _ _ ⟨bt_ BK208 0, bt_ BK208 1, bt_ BK206 0, (hd_ HB hw211_0), (hd_ HB hw211_1)⟩ (fun hHeld => ?_)
            clear hK K
            refine norm_ (a' := ?_) ?_ ?_
            rotate_left
            ·show Act.put _ (some 20) _ = _
             simp only [Act.put, ls0_, ls1_, ls2_, i64_w, i32_w]
             rfl
            iterate 6 (refine psn_ HT_ ?_)
            refine ps_ 16 29 (bm 26 98303) HT_ ?_
            refine ps_ 18 31 (bm 26 360447) HT_ ?_
            refine ps_ 19 32 (bm 26 884735) HT_ ?_
            refine ps_ 20 33 (bm 26 1933311) HT_ ?_
            refine tk_ 15 28 (bm 26 1966079) HT_ HW_ hHeld ?_
            refine tk_ 17 30 (bs 26 21) HT_ HW_ hHeld ?_
            refine psn_ HT_ ?_
            refine tkn_ HT_ HW_ hHeld ?_
            refine on_ 23 (some 36) (bs 26 24) HT_ (fun K hK => ?_)
            refine goes_ Try.func68 (by kernel_rfl) rfl #[.agg #[.int .i64 ((rd_T68 l0_0 x8_1).f0), .int .i64 ((rd_T68 l0_0 x8_1).f1)], .agg #[.int .i64 ((rd_T68 l0_0 (ji12)).f0), .int .i64 ((rd_T68 l0_0 (ji12)).f1)]] (by rfl) rfl rfl (by (try simp only [List.map_toArray, List.map_cons, List.map_nil]); first | done | (simp only [hji12]; rfl) | rfl | (simp only [List.length_drop, List.length_take]; rfl)) ?_
            with_reducible refine (impl_Ahead.calls ((rd_T68 l0_0 x8_1).f0) ((rd_T68 l0_0 x8_1).f1) ((rd_T68 l0_0 (ji12)).f0) ((rd_T68 l0_0 (ji12)).f1) true _ A15.out).mono ?_
            rintro e w24 ⟨rfl, hb⟩
            refine ⟨_, rfl, ?_⟩
            replace BK206 := bb_ BK206 hb; replace BK208 := bb_ BK208 hb; replace HB := Aside0.mk (below_step (bf_ HB) hb); (try clear hb); (try clear hb2); (try clear hk); (try clear hi)
            refine hK.out _ _ ⟨bt_ BK208 0, bt_ BK208 1, bt_ BK206 0, (hd_ HB hw211_0), (hd_ HB hw211_1)⟩ (fun hHeld => ?_)
            clear hK K
            refine norm_ (a' := ?_) ?_ ?_
            rotate_left
            ·show Act.put _ (some 36) _ = _
             simp only [Act.put, ls0_, ls1_, ls2_, i64_w, i32_w]
             rfl
            iterate 2 (refine psn_ HT_ ?_)
            refine done_ (done_of HT_.out (by kernel_rfl)) ?_
            try go_wp2
            go_ret
            exact ⟨by first | rfl | (simp [errW_none, errW_some] <;> rfl) | (simp only [← hji12]; first | rfl | (simp [errW_none, errW_some] <;> rfl)) | (simp [*, errW_none, errW_some] <;> rfl), bf_ HB⟩
           ·replace c16 := Bool.eq_false_iff.mpr c16
            subst c16
            rw [if_neg (show ¬ (false = true) by decide)] at H
            have H' := Aside0.mk H
            clear H
            have p207 : 0 ≤ (x8_1 : Int) := od_
            have q207 : x8_1 < (l0_0.length : Int) := od_
            obtain ⟨ad207, e207, hx207_0, hx207_1⟩ := at_T68 HR0_0.out x8_1 p207 q207
            cases e207
            replace hx207_0 := hb_ HB hx207_0
            replace hx207_1 := hb_ HB hx207_1
            replace p207 := eq_true p207
            replace q207 := eq_true q207
            try go_wp2_with (first | ((with_reducible refine gd_ 4 rfl ?_); refine bv_ 4 #[.int .i64 0, .int .i64 0] 68 ?_; intro gb208 hg w25 hbox hb; have BK208 := Aside0.mk (hbox); have GW208 := gw_ HB hg; have GE208 := gw_ HB hg; replace HB := Aside0.mk (below_step (bf_ HB) hb); have NB206_208 := nl_ BK206 hg; have NB208_206 := ng_ BK206 hg; replace BK206 := bb_ BK206 hb; clear hb hbox hg; have hnb26 := NB208_206.out; have hnc26 := NB206_208.out; obtain ⟨hcz27_0, hcz27_1, hfz27_0, hfz27_1⟩ := bz2_ BK208))
            generalize hW_ : ((w25.setCell ⟨gb208, 0, none⟩ (.int .i64 ((rd_T68 l0_0 x8_1).f0))).setCell ⟨gb208, 1, none⟩ (.int .i64 ((rd_T68 l0_0 x8_1).f1))) = w28
            replace BK206 := fc2_ hW_ BK206 NB206_208
            replace BK208 : Aside0 (w28.heap[gb208]? = some (.cells #[.int .i64 ((rd_T68 l0_0 x8_1).f0), .int .i64 ((rd_T68 l0_0 x8_1).f1)] 68 (0, 0))) := pc2_ hW_ BK208
            replace HB : Aside0 (Below w.heap.size w w28) := ⟨by cases hW_; exact bf_ HB⟩
            clear hW_; replace BK206 := Aside0.mk (blk_drew BK206.out); replace BK208 := Aside0.mk (blk_drew BK208.out); replace HB := Aside0.mk (below_drew1 HB.out)
            have p211 : 0 ≤ ((ji12) : Int) := od_
            have q211 : (ji12) < (l0_0.length : Int) := od_
            obtain ⟨ad211, e211, hx211_0, hx211_1⟩ := at_T68 HR0_0.out (ji12) p211 q211
            have hw211_1 := hx211_1; have hw211_0 := hx211_0
            obtain rfl : ad207 = ad211 := (by injection e211)
            replace hx211_0 := hb_ HB hx211_0
            replace hx211_1 := hb_ HB hx211_1
            replace p211 := eq_true p211
            replace q211 := eq_true q211
            refine start_ (n := 26) (S := fun w' => cw_ w' gb208 0 (.int .i64 ((rd_T68 l0_0 x8_1).f0)) ∧ cw_ w' gb208 1 (.int .i64 ((rd_T68 l0_0 x8_1).f1)) ∧ cw_ w' gb206 0 (.slice (some ad207) l0_0.length c0_0) ∧ w'.cell? (ad207.add (((ji12)).toNat * 2)) = some (.int .i64 ((rd_T68 l0_0 (ji12)).f0)) ∧ w'.cell? ⟨(ad207.add (((ji12)).toNat * 2)).block, (ad207.add (((ji12)).toNat * 2)).off + 1, none⟩ = some (.int .i64 ((rd_T68 l0_0 (ji12)).f1))) (ds := []) (bs 26 0) (by kernel_rfl) rfl rfl ⟨bt_ BK208 0, bt_ BK208 1, bt_ BK206 0, (hd_ HB hw211_0), (hd_ HB hw211_1)⟩ (fun hHeld => ?_); refine with_tabW impl_HeapOk.tab4 impl_HeapOk.bits4 (fun HT_ HW_ => ?_)
            generalize w28.drew = w29 at BK206 BK208 HB hx211_0 hx211_1 hHeld ⊢
            refine tkn_ HT_ HW_ hHeld ?_
            refine on_ 1 (some 14) (bs 26 2) HT_ (fun K hK => ?_)
            refine gs_ Try.func101 #[.agg #[.int .i64 ((rd_T68 l0_0 x8_1).f0), .int .i64 ((rd_T68 l0_0 x8_1).f1)]] ?_
            with_reducible refine (impl_ItemOk.calls ((rd_T68 l0_0 x8_1).f0) ((rd_T68 l0_0 x8_1).f1) true _ A7.out).mono ?_
            rintro e w30 ⟨rfl, hb⟩
            refine ⟨_, rfl, ?_⟩
            replace BK206 := bb_ BK206 hb; replace BK208 := bb_ BK208 hb; replace HB := Aside0.mk (below_step (bf_ HB) hb); (try clear hb); (try clear hb2); (try clear hk); (try clear hi)
            refine hK.out _ _ ⟨bt_ BK208 0, bt_ BK208 1, bt_ BK206 0, (hd_ HB hw211_0), (hd_ HB hw211_1)⟩ (fun hHeld => ?_)
            clear hK K
            refine norm_ (a' := ?_) ?_ ?_
            rotate_left
            ·show Act.put _ (some 14) _ = _
             simp only [Act.put, ls0_, ls1_, ls2_, i64_w, i32_w]
             rfl
            iterate 2 (refine psn_ HT_ ?_)
            refine ps_ 5 18 (bm 26 47) HT_ ?_
            refine ps_ 8 21 (bm 26 303) HT_ ?_
            refine tk_ 4 17 (bm 26 319) HT_ HW_ hHeld ?_
            refine tk_ 6 19 (bm 26 383) HT_ HW_ hHeld ?_
            refine on_ 7 (some 20) (bs 26 9) HT_ (fun K hK => ?_)
            refine gs_ Try.func95 #[.agg #[.slice (some ad207) l0_0.length c0_0], .int .i64 ((rd_T68 l0_0 x8_1).f1)] ?_
            with_reducible refine (impl_Heap_place.calls _ _ l0_0 ((rd_T68 l0_0 x8_1).f1) t210 _ ?side1 ?side2 A9.out).mono ?_
            (case side1 => repeat (first | exact (Kd.C_below HR0_0.out HB.out) | (with_reducible refine Kd.C_alloc ?_ _) | (with_reducible refine Kd.C_drewN ?_ _) | (with_reducible refine Kd.C_drew ?_)))
            (case side2 => exact HC0_0.out)
            rintro e w31 ⟨rfl, hb⟩
            refine ⟨_, rfl, ?_⟩
            replace BK206 := bb_ BK206 hb; replace BK208 := bb_ BK208 hb; replace HB := Aside0.mk (below_step (bf_ HB) hb); (try clear hb); (try clear hb2); (try clear hk); (try clear hi)
            refine hK.out _ _ ⟨bt_ BK208 0, bt_ BK208 1, bt_ BK206 0, (hd_ HB hw211_0), (hd_ HB hw211_1)⟩ (fun hHeld => ?_)
            clear hK K
            refine norm_ (a' := ?_) ?_ ?_
            rotate_left
            ·show Act.put _ (some 20) _ = _
             simp only [Act.put, ls0_, ls1_, ls2_, i64_w, i32_w]
             rfl
            iterate 6 (refine psn_ HT_ ?_)
            refine ps_ 16 29 (bm 26 98303) HT_ ?_
            refine ps_ 18 31 (bm 26 360447) HT_ ?_
            refine ps_ 19 32 (bm 26 884735) HT_ ?_
            refine ps_ 20 33 (bm 26 1933311) HT_ ?_
            refine tk_ 15 28 (bm 26 1966079) HT_ HW_ hHeld ?_
            refine tk_ 17 30 (bs 26 21) HT_ HW_ hHeld ?_
            refine psn_ HT_ ?_
            refine tkn_ HT_ HW_ hHeld ?_
            refine on_ 23 (some 36) (bs 26 24) HT_ (fun K hK => ?_)
            refine goes_ Try.func68 (by kernel_rfl) rfl #[.agg #[.int .i64 ((rd_T68 l0_0 x8_1).f0), .int .i64 ((rd_T68 l0_0 x8_1).f1)], .agg #[.int .i64 ((rd_T68 l0_0 (ji12)).f0), .int .i64 ((rd_T68 l0_0 (ji12)).f1)]] (by rfl) rfl rfl (by (try simp only [List.map_toArray, List.map_cons, List.map_nil]); first | done | (simp only [hji12]; rfl) | rfl | (simp only [List.length_drop, List.length_take]; rfl)) ?_
            with_reducible refine (impl_Ahead.calls ((rd_T68 l0_0 x8_1).f0) ((rd_T68 l0_0 x8_1).f1) ((rd_T68 l0_0 (ji12)).f0) ((rd_T68 l0_0 (ji12)).f1) false _ A15.out).mono ?_
            rintro e w32 ⟨rfl, hb⟩
            refine ⟨_, rfl, ?_⟩
            replace BK206 := bb_ BK206 hb; replace BK208 := bb_ BK208 hb; replace HB := Aside0.mk (below_step (bf_ HB) hb); (try clear hb); (try clear hb2); (try clear hk); (try clear hi)
            refine hK.out _ _ ⟨bt_ BK208 0, bt_ BK208 1, bt_ BK206 0, (hd_ HB hw211_0), (hd_ HB hw211_1)⟩ (fun hHeld => ?_)
            clear hK K
            refine norm_ (a' := ?_) ?_ ?_
            rotate_left
            ·show Act.put _ (some 36) _ = _
             simp only [Act.put, ls0_, ls1_, ls2_, i64_w, i32_w]
             rfl
            iterate 2 (refine psn_ HT_ ?_)
            refine done_ (done_of HT_.out (by kernel_rfl)) ?_
            try go_wp2
            go_roundg k1
            case measure => have := HK1.out; omega
            case rel => exact ⟨(wrap64 (x8_1 + 1)), (by first | rfl | (simp; done) | (simp [*]; done)), H', ⟨by have := HK1.out; omega⟩, ⟨bk_ BK206⟩, ⟨bf_ HB⟩⟩
          ·rw [if_neg c14] at H
           exact absurd H (by simp)
         ·rw [if_neg c13] at H
          exact absurd H (by simp)
        ·rw [if_neg c11] at H
         have c11b0 : decide (0 < x8_1) = false := decide_eq_false c11
         clear c11
         have H' := Aside0.mk H
         clear H
         have p207 : 0 ≤ (x8_1 : Int) := od_
         have q207 : x8_1 < (l0_0.length : Int) := od_
         obtain ⟨ad207, e207, hx207_0, hx207_1⟩ := at_T68 HR0_0.out x8_1 p207 q207
         cases e207
         replace hx207_0 := hb_ HB hx207_0
         replace hx207_1 := hb_ HB hx207_1
         replace p207 := eq_true p207
         replace q207 := eq_true q207
         try go_wp2_with (first | ((with_reducible refine gd_ 4 rfl ?_); refine bv_ 4 #[.int .i64 0, .int .i64 0] 68 ?_; intro gb208 hg w33 hbox hb; have BK208 := Aside0.mk (hbox); have GW208 := gw_ HB hg; have GE208 := gw_ HB hg; replace HB := Aside0.mk (below_step (bf_ HB) hb); have NB206_208 := nl_ BK206 hg; have NB208_206 := ng_ BK206 hg; replace BK206 := bb_ BK206 hb; clear hb hbox hg; have hnb34 := NB208_206.out; have hnc34 := NB206_208.out; obtain ⟨hcz35_0, hcz35_1, hfz35_0, hfz35_1⟩ := bz2_ BK208))
         generalize hW_ : ((w33.setCell ⟨gb208, 0, none⟩ (.int .i64 ((rd_T68 l0_0 x8_1).f0))).setCell ⟨gb208, 1, none⟩ (.int .i64 ((rd_T68 l0_0 x8_1).f1))) = w36
         replace BK206 := fc2_ hW_ BK206 NB206_208
         replace BK208 : Aside0 (w36.heap[gb208]? = some (.cells #[.int .i64 ((rd_T68 l0_0 x8_1).f0), .int .i64 ((rd_T68 l0_0 x8_1).f1)] 68 (0, 0))) := pc2_ hW_ BK208
         replace HB : Aside0 (Below w.heap.size w w36) := ⟨by cases hW_; exact bf_ HB⟩
         clear hW_; replace BK206 := Aside0.mk (blk_drew BK206.out); replace BK208 := Aside0.mk (blk_drew BK208.out); replace HB := Aside0.mk (below_drew1 HB.out)
         refine start_ (n := 26) (S := fun w' => cw_ w' gb208 0 (.int .i64 ((rd_T68 l0_0 x8_1).f0)) ∧ cw_ w' gb208 1 (.int .i64 ((rd_T68 l0_0 x8_1).f1)) ∧ cw_ w' gb206 0 (.slice (some ad207) l0_0.length c0_0)) (ds := []) (bs 26 0) (by kernel_rfl) rfl rfl ⟨bt_ BK208 0, bt_ BK208 1, bt_ BK206 0⟩ (fun hHeld => ?_); refine with_tabW impl_HeapOk.tab4 impl_HeapOk.bits4 (fun HT_ HW_ => ?_)
         generalize w36.drew = w37 at BK206 BK208 HB hHeld ⊢
         refine tkn_ HT_ HW_ hHeld ?_
         refine on_ 1 (some 14) (bs 26 2) HT_ (fun K hK => ?_)
         refine gs_ Try.func101 #[.agg #[.int .i64 ((rd_T68 l0_0 x8_1).f0), .int .i64 ((rd_T68 l0_0 x8_1).f1)]] ?_
         with_reducible refine (impl_ItemOk.calls ((rd_T68 l0_0 x8_1).f0) ((rd_T68 l0_0 x8_1).f1) true _ A7.out).mono ?_
         rintro e w38 ⟨rfl, hb⟩
         refine ⟨_, rfl, ?_⟩
         replace BK206 := bb_ BK206 hb; replace BK208 := bb_ BK208 hb; replace HB := Aside0.mk (below_step (bf_ HB) hb); (try clear hb); (try clear hb2); (try clear hk); (try clear hi)
         refine hK.out _ _ ⟨bt_ BK208 0, bt_ BK208 1, bt_ BK206 0⟩ (fun hHeld => ?_)
         clear hK K
         refine norm_ (a' := ?_) ?_ ?_
         rotate_left
         ·show Act.put _ (some 14) _ = _
          simp only [Act.put, ls0_, ls1_, ls2_, i64_w, i32_w]
          rfl
         iterate 2 (refine psn_ HT_ ?_)
         refine ps_ 5 18 (bm 26 47) HT_ ?_
         refine ps_ 8 21 (bm 26 303) HT_ ?_
         refine tk_ 4 17 (bm 26 319) HT_ HW_ hHeld ?_
         refine tk_ 6 19 (bm 26 383) HT_ HW_ hHeld ?_
         refine on_ 7 (some 20) (bs 26 9) HT_ (fun K hK => ?_)
         refine gs_ Try.func95 #[.agg #[.slice (some ad207) l0_0.length c0_0], .int .i64 ((rd_T68 l0_0 x8_1).f1)] ?_
         with_reducible refine (impl_Heap_place.calls _ _ l0_0 ((rd_T68 l0_0 x8_1).f1) t210 _ ?side1 ?side2 A9.out).mono ?_
         (case side1 => repeat (first | exact (Kd.C_below HR0_0.out HB.out) | (with_reducible refine Kd.C_alloc ?_ _) | (with_reducible refine Kd.C_drewN ?_ _) | (with_reducible refine Kd.C_drew ?_)))
         (case side2 => exact HC0_0.out)
         rintro e w39 ⟨rfl, hb⟩
         refine ⟨_, rfl, ?_⟩
         replace BK206 := bb_ BK206 hb; replace BK208 := bb_ BK208 hb; replace HB := Aside0.mk (below_step (bf_ HB) hb); (try clear hb); (try clear hb2); (try clear hk); (try clear hi)
         refine hK.out _ _ ⟨bt_ BK208 0, bt_ BK208 1, bt_ BK206 0⟩ (fun hHeld => ?_)
         clear hK K
         refine norm_ (a' := ?_) ?_ ?_
         rotate_left
         ·show Act.put _ (some 20) _ = _
          simp only [Act.put, ls0_, ls1_, ls2_, i64_w, i32_w]
          rfl
         iterate 6 (refine psn_ HT_ ?_)
         iterate 9 (refine pun_ HT_ ?_)
         iterate 2 (refine psn_ HT_ ?_)
         refine done_ (done_of HT_.out (by kernel_rfl)) ?_
         try go_wp2
         go_roundg k1
         case measure => have := HK1.out; omega
         case rel => exact ⟨(wrap64 (x8_1 + 1)), (by first | rfl | (simp; done) | (simp [*]; done)), H', ⟨by have := HK1.out; omega⟩, ⟨bk_ BK206⟩, ⟨bf_ HB⟩⟩
       ·rw [if_neg c10] at H
        have c10b0 : (t210 == x8_1) = false := beq_eq_false_iff_ne.mpr c10
        have c10b1 : (t210 != x8_1) = true := bne_iff_ne.mpr c10
        obtain rfl := Option.some.inj H
        have p207 : 0 ≤ (x8_1 : Int) := od_
        have q207 : x8_1 < (l0_0.length : Int) := od_
        obtain ⟨ad207, e207, hx207_0, hx207_1⟩ := at_T68 HR0_0.out x8_1 p207 q207
        cases e207
        replace hx207_0 := hb_ HB hx207_0
        replace hx207_1 := hb_ HB hx207_1
        replace p207 := eq_true p207
        replace q207 := eq_true q207
        try go_wp2_with (first | ((with_reducible refine gd_ 4 rfl ?_); refine bv_ 4 #[.int .i64 0, .int .i64 0] 68 ?_; intro gb208 hg w40 hbox hb; have BK208 := Aside0.mk (hbox); have GW208 := gw_ HB hg; have GE208 := gw_ HB hg; replace HB := Aside0.mk (below_step (bf_ HB) hb); have NB206_208 := nl_ BK206 hg; have NB208_206 := ng_ BK206 hg; replace BK206 := bb_ BK206 hb; clear hb hbox hg; have hnb41 := NB208_206.out; have hnc41 := NB206_208.out; obtain ⟨hcz42_0, hcz42_1, hfz42_0, hfz42_1⟩ := bz2_ BK208))
        generalize hW_ : ((w40.setCell ⟨gb208, 0, none⟩ (.int .i64 ((rd_T68 l0_0 x8_1).f0))).setCell ⟨gb208, 1, none⟩ (.int .i64 ((rd_T68 l0_0 x8_1).f1))) = w43
        replace BK206 := fc2_ hW_ BK206 NB206_208
        replace BK208 : Aside0 (w43.heap[gb208]? = some (.cells #[.int .i64 ((rd_T68 l0_0 x8_1).f0), .int .i64 ((rd_T68 l0_0 x8_1).f1)] 68 (0, 0))) := pc2_ hW_ BK208
        replace HB : Aside0 (Below w.heap.size w w43) := ⟨by cases hW_; exact bf_ HB⟩
        clear hW_; replace BK206 := Aside0.mk (blk_drew BK206.out); replace BK208 := Aside0.mk (blk_drew BK208.out); replace HB := Aside0.mk (below_drew1 HB.out)
        refine start_ (n := 26) (S := fun w' => cw_ w' gb208 0 (.int .i64 ((rd_T68 l0_0 x8_1).f0)) ∧ cw_ w' gb208 1 (.int .i64 ((rd_T68 l0_0 x8_1).f1)) ∧ cw_ w' gb206 0 (.slice (some ad207) l0_0.length c0_0)) (ds := []) (bs 26 0) (by kernel_rfl) rfl rfl ⟨bt_ BK208 0, bt_ BK208 1, bt_ BK206 0⟩ (fun hHeld => ?_); refine with_tabW impl_HeapOk.tab4 impl_HeapOk.bits4 (fun HT_ HW_ => ?_)
        generalize w43.drew = w44 at BK206 BK208 HB hHeld ⊢
        refine tkn_ HT_ HW_ hHeld ?_
        refine on_ 1 (some 14) (bs 26 2) HT_ (fun K hK => ?_)
        refine gs_ Try.func101 #[.agg #[.int .i64 ((rd_T68 l0_0 x8_1).f0), .int .i64 ((rd_T68 l0_0 x8_1).f1)]] ?_
        with_reducible refine (impl_ItemOk.calls ((rd_T68 l0_0 x8_1).f0) ((rd_T68 l0_0 x8_1).f1) true _ A7.out).mono ?_
        rintro e w45 ⟨rfl, hb⟩
        refine ⟨_, rfl, ?_⟩
        replace BK206 := bb_ BK206 hb; replace BK208 := bb_ BK208 hb; replace HB := Aside0.mk (below_step (bf_ HB) hb); (try clear hb); (try clear hb2); (try clear hk); (try clear hi)
        refine hK.out _ _ ⟨bt_ BK208 0, bt_ BK208 1, bt_ BK206 0⟩ (fun hHeld => ?_)
        clear hK K
        refine norm_ (a' := ?_) ?_ ?_
        rotate_left
        ·show Act.put _ (some 14) _ = _
         simp only [Act.put, ls0_, ls1_, ls2_, i64_w, i32_w]
         rfl
        iterate 2 (refine psn_ HT_ ?_)
        refine ps_ 5 18 (bm 26 47) HT_ ?_
        refine ps_ 8 21 (bm 26 303) HT_ ?_
        refine tk_ 4 17 (bm 26 319) HT_ HW_ hHeld ?_
        refine tk_ 6 19 (bm 26 383) HT_ HW_ hHeld ?_
        refine on_ 7 (some 20) (bs 26 9) HT_ (fun K hK => ?_)
        refine gs_ Try.func95 #[.agg #[.slice (some ad207) l0_0.length c0_0], .int .i64 ((rd_T68 l0_0 x8_1).f1)] ?_
        with_reducible refine (impl_Heap_place.calls _ _ l0_0 ((rd_T68 l0_0 x8_1).f1) t210 _ ?side1 ?side2 A9.out).mono ?_
        (case side1 => repeat (first | exact (Kd.C_below HR0_0.out HB.out) | (with_reducible refine Kd.C_alloc ?_ _) | (with_reducible refine Kd.C_drewN ?_ _) | (with_reducible refine Kd.C_drew ?_)))
        (case side2 => exact HC0_0.out)
        rintro e w46 ⟨rfl, hb⟩
        refine ⟨_, rfl, ?_⟩
        replace BK206 := bb_ BK206 hb; replace BK208 := bb_ BK208 hb; replace HB := Aside0.mk (below_step (bf_ HB) hb); (try clear hb); (try clear hb2); (try clear hk); (try clear hi)
        refine hK.out _ _ ⟨bt_ BK208 0, bt_ BK208 1, bt_ BK206 0⟩ (fun hHeld => ?_)
        clear hK K
        refine norm_ (a' := ?_) ?_ ?_
        rotate_left
        ·show Act.put _ (some 20) _ = _
         simp only [Act.put, ls0_, ls1_, ls2_, i64_w, i32_w]
         rfl
        iterate 3 (refine psn_ HT_ ?_)
        iterate 13 (refine pun_ HT_ ?_)
        refine psn_ HT_ ?_
        refine done_ (done_of HT_.out (by kernel_rfl)) ?_
        try go_wp2
        go_ret
        exact ⟨by first | rfl | (simp [errW_none, errW_some] <;> rfl) | (simp [*, errW_none, errW_some] <;> rfl), bf_ HB⟩
      ·replace c8 := Bool.eq_false_iff.mpr c8
       subst c8
       rw [if_neg (show ¬ (false = true) by decide)] at H
       obtain rfl := Option.some.inj H
       have p207 : 0 ≤ (x8_1 : Int) := od_
       have q207 : x8_1 < (l0_0.length : Int) := od_
       obtain ⟨ad207, e207, hx207_0, hx207_1⟩ := at_T68 HR0_0.out x8_1 p207 q207
       cases e207
       replace hx207_0 := hb_ HB hx207_0
       replace hx207_1 := hb_ HB hx207_1
       replace p207 := eq_true p207
       replace q207 := eq_true q207
       try go_wp2_with (first | ((with_reducible refine gd_ 4 rfl ?_); refine bv_ 4 #[.int .i64 0, .int .i64 0] 68 ?_; intro gb208 hg w47 hbox hb; have BK208 := Aside0.mk (hbox); have GW208 := gw_ HB hg; have GE208 := gw_ HB hg; replace HB := Aside0.mk (below_step (bf_ HB) hb); have NB206_208 := nl_ BK206 hg; have NB208_206 := ng_ BK206 hg; replace BK206 := bb_ BK206 hb; clear hb hbox hg; have hnb48 := NB208_206.out; have hnc48 := NB206_208.out; obtain ⟨hcz49_0, hcz49_1, hfz49_0, hfz49_1⟩ := bz2_ BK208))
       generalize hW_ : ((w47.setCell ⟨gb208, 0, none⟩ (.int .i64 ((rd_T68 l0_0 x8_1).f0))).setCell ⟨gb208, 1, none⟩ (.int .i64 ((rd_T68 l0_0 x8_1).f1))) = w50
       replace BK206 := fc2_ hW_ BK206 NB206_208
       replace BK208 : Aside0 (w50.heap[gb208]? = some (.cells #[.int .i64 ((rd_T68 l0_0 x8_1).f0), .int .i64 ((rd_T68 l0_0 x8_1).f1)] 68 (0, 0))) := pc2_ hW_ BK208
       replace HB : Aside0 (Below w.heap.size w w50) := ⟨by cases hW_; exact bf_ HB⟩
       clear hW_; replace BK206 := Aside0.mk (blk_drew BK206.out); replace BK208 := Aside0.mk (blk_drew BK208.out); replace HB := Aside0.mk (below_drew1 HB.out)
       refine start_ (n := 26) (S := fun w' => cw_ w' gb208 0 (.int .i64 ((rd_T68 l0_0 x8_1).f0)) ∧ cw_ w' gb208 1 (.int .i64 ((rd_T68 l0_0 x8_1).f1))) (ds := []) (bs 26 0) (by kernel_rfl) rfl rfl ⟨bt_ BK208 0, bt_ BK208 1⟩ (fun hHeld => ?_); refine with_tabW impl_HeapOk.tab4 impl_HeapOk.bits4 (fun HT_ HW_ => ?_)
       generalize w50.drew = w51 at BK206 BK208 HB hHeld ⊢
       refine tkn_ HT_ HW_ hHeld ?_
       refine on_ 1 (some 14) (bs 26 2) HT_ (fun K hK => ?_)
       refine gs_ Try.func101 #[.agg #[.int .i64 ((rd_T68 l0_0 x8_1).f0), .int .i64 ((rd_T68 l0_0 x8_1).f1)]] ?_
       with_reducible refine (impl_ItemOk.calls ((rd_T68 l0_0 x8_1).f0) ((rd_T68 l0_0 x8_1).f1) false _ A7.out).mono ?_
       rintro e w52 ⟨rfl, hb⟩
       refine ⟨_, rfl, ?_⟩
       replace BK206 := bb_ BK206 hb; replace BK208 := bb_ BK208 hb; replace HB := Aside0.mk (below_step (bf_ HB) hb); (try clear hb); (try clear hb2); (try clear hk); (try clear hi)
       refine hK.out _ _ ⟨bt_ BK208 0, bt_ BK208 1⟩ (fun hHeld => ?_)
       clear hK K
       refine norm_ (a' := ?_) ?_ ?_
       rotate_left
       ·show Act.put _ (some 14) _ = _
        simp only [Act.put, ls0_, ls1_, ls2_, i64_w, i32_w]
        rfl
       iterate 2 (refine psn_ HT_ ?_)
       iterate 6 (refine pun_ HT_ ?_)
       iterate 2 (refine psn_ HT_ ?_)
       iterate 13 (refine pun_ HT_ ?_)
       refine psn_ HT_ ?_
       refine done_ (done_of HT_.out (by kernel_rfl)) ?_
       try go_wp2
       go_ret
       exact ⟨by first | rfl | (simp [errW_none, errW_some] <;> rfl) | (simp [*, errW_none, errW_some] <;> rfl), bf_ HB⟩
     ·rw [if_neg c6] at H
      exact absurd H (by simp)
    ·rw [if_neg c5] at H
     exact absurd H (by simp)
   ·rw [if_neg c4] at H
    have c4b0 : decide (x8_1 < (l0_0.length : Int)) = false := decide_eq_false c4
    clear c4
    obtain rfl := Option.some.inj H
    obtain ⟨hcz53_0, hfz53_0⟩ := bz1_ BK206
    go_wp2
    go_ret
    exact ⟨by first | rfl | (simp [errW_none, errW_some] <;> rfl) | (simp [*, errW_none, errW_some] <;> rfl), bf_ HB⟩

end Go.Proofs.Ytnklakficjpmoaa.PFnExactHeapDrop
