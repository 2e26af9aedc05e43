-- printed by a program of this session (wip/printx) out of the translation; Lean checks it
import Derived.Test.YtnklakficjpmoaaVFnHeapBook
import Derived.Test.YtnklakficjpmoaaPFnHeapBookx0
import Derived.Test.YtnklakficjpmoaaPFnHeapBookx6
import Derived.Test.YtnklakficjpmoaaPFnHeapBookx7
import Derived.Test.YtnklakficjpmoaaPFnHeapBookx9
namespace Go.Proofs.Ytnklakficjpmoaa.PFnHeapBook
open Go.RowKit Go.Proofs.YtnklakficjpmoaaW.PrintWords Go.Proofs.YtnklakficjpmoaaW.PrintLast Go.Proofs.YtnklakficjpmoaaW.PrintMore
attribute [local go_sem] max2_int min2_int max_two min_two max_three min_three max_four min_four   -- for this text's walks alone
set_option linter.unusedVariables false
set_option linter.unusedSimpArgs false

/-! ### spec_l01Cur_heap: function 135 -/
def spec_l01Cur_heap.l0 : Nat → Int → List Int → Int → Int → List (S68) → Option ((List (S68)) × Int × Int)
  | 0, _, _, _, _, _ => none
  | k + 1, x4, x1000, x1001, x1002, x280000 => if x4 > 0 then ((spec_l01Cur_item.f x1000 x1001 x1002).bind fun bt283 => ((spec_HeapPush.f k x280000 bt283.1 bt283.2.1).bind fun bt287 => (if bt287.2 = 0 then (spec_l01Cur_heap.l0 k (wrap64 (x4 - 1)) x1000 bt283.2.2.1 bt283.2.2.2 bt287.1) else (spec_l01Cur_heap.l0 k (wrap64 (x4 - 1)) x1000 bt283.2.2.1 bt283.2.2.2 x280000)))) else (some (x280000, x1001, x1002))
def spec_l01Cur_heap.f (k : Nat) (s0_0 : List Int) (s0_1 : Int) (s0_2 : Int) : Option ((List (S68)) × Int × Int) := (spec_l01Cur_size.f s0_0 s0_1 s0_2 40).bind fun bt280 => (spec_l01Cur_heap.l0 k bt280.1 s0_0 bt280.2.1 bt280.2.2 ([] : List (S68)))
theorem spec_l01Cur_heap.mono_l : ∀ k, (∀ y0 y1 y2 y3 y4, LeO (spec_l01Cur_heap.l0 k y0 y1 y2 y3 y4) (spec_l01Cur_heap.l0 (k + 1) y0 y1 y2 y3 y4))
 | 0 => fun _ _ _ _ _ r h => by simp [spec_l01Cur_heap.l0] at h
 | k + 1 => by
  have ih0 := spec_l01Cur_heap.mono_l k
  ·intro y0 y1 y2 y3 y4
   unfold spec_l01Cur_heap.l0
   repeat' (first | (with_reducible exact ih0 ..) | (with_reducible exact spec_HeapPush.mono _ _ _ _) | (with_reducible exact LeO.refl _) | (with_reducible exact LeO.none _) | (with_reducible refine LeO.ite ?_ ?_) | (with_reducible refine LeO.bind ?_ (fun _ => ?_)) | exact ih0 .. | exact spec_HeapPush.mono _ _ _ _ | exact LeO.none _ | refine LeO.ite ?_ ?_ | refine LeO.bind ?_ (fun _ => ?_))
theorem spec_l01Cur_heap.mono : ∀ a0 a1 a2 k, LeO (spec_l01Cur_heap.f k a0 a1 a2) (spec_l01Cur_heap.f (k + 1) a0 a1 a2) := by
 intro a0 a1 a2 k
 have ih0 := spec_l01Cur_heap.mono_l k
 unfold spec_l01Cur_heap.f
 repeat' (first | (with_reducible exact ih0 ..) | (with_reducible exact spec_HeapPush.mono _ _ _ _) | (with_reducible exact LeO.refl _) | (with_reducible exact LeO.none _) | (with_reducible refine LeO.ite ?_ ?_) | (with_reducible refine LeO.bind ?_ (fun _ => ?_)) | exact ih0 .. | exact spec_HeapPush.mono _ _ _ _ | exact LeO.none _ | refine LeO.ite ?_ ?_ | refine LeO.bind ?_ (fun _ => ?_))
def spec_l01Cur_heap.T5 : Bool × List (List Nat × List Nat) := (true, [([], []), ([], []), ([1], [1]), ([0, 2, 2], [0, 2]), ([3], [3]), ([4], [4]), ([4], [4]), ([], []), ([7, 5, 3, 0, 1, 2, 3, 4, 5, 7], [5, 7]), ([6, 8, 0, 1, 2, 3, 4, 5, 6, 7, 8], [6])])
def spec_l01Cur_heap.B5 : List Nat := [0, 0, 2, 7, 15, 31, 31, 0, 191, 511]
theorem spec_l01Cur_heap.tab5 : rtab .any (opsOf Try.f135 5) = spec_l01Cur_heap.T5 := by kernel_rfl
theorem spec_l01Cur_heap.bits5 : waitsOk spec_l01Cur_heap.T5.2 spec_l01Cur_heap.B5 = true := by kernel_rfl
set_option maxHeartbeats 8000000 in
set_option maxRecDepth 100000 in
theorem spec_l01Cur_heap.calls (k : Nat) (g : Nat) (s0_0 : List Int) (s0_1 : Int) (s0_2 : Int) (r1 : List (S68)) (r2 : Int) (r3 : Int) (w0 w : World) (hI : IsS150 w0 w g s0_0 s0_1 s0_2) (hB : Below w0.heap.size w0 w) (h : spec_l01Cur_heap.f k s0_0 s0_1 s0_2 = some (r1, r2, r3)) :
  Calls Try.prog 135 #[.pointer (some ⟨g, 0, none⟩)] w fun e w' => ∃ v0_ : Value, e = .returned (.agg #[v0_]) ∧ Kd.R k68 68 w' w.heap.size (fun _ => True) v0_ r1 ∧ IsS150 w0 w' g s0_0 r2 r3 ∧ Below w0.heap.size w0 w' ∧ KeepBut w w' g none := by
 have hu29 := Try.underlying29
 have HI0 := Aside0.mk hI
 have HK := Aside0.mk (KeepBut.refl w g none)
 have HL := Aside0.mk hB.size
 clear hI
 have HW0 := Aside0.mk hB.size
 have HB := Aside0.mk hB; clear hB
 have H := h
 clear h
 unfold spec_l01Cur_heap.f at H
 replace H := Option.bind_eq_some_iff.mp H
 obtain ⟨⟨t280, t281, t282⟩, A20, H⟩ := H
 have A2 := Aside0.mk A20
 clear A20
 have H' := Aside0.mk H
 clear H
 go_enter Try.func135, Try.ntmps135
 go_wp2_with (first | ((with_reducible refine gd_ 2 rfl ?_); refine bv_ 2 #[.slice none 0 0] 29 ?_; intro gb278 hg w3 hbox hb; replace HB := Aside0.mk (below_step (by repeat (first | (with_reducible first | exact HB.out | apply below_alloc | apply pw_below_drewN | apply below_drew1 | refine below_set ?_ (IsS150.ge HI0.out)) | exact HB.out)) hb); have BK278 := Aside0.mk (hbox); have GW278 := Aside0.mk ((by rw [hg]; exact (keep_size (w := w) (g := g) (row := none) (by repeat (first | (with_reducible first | exact HK.out | apply KeepBut.set_ | apply keep_drewN | apply keep_drew | apply keep_alloc) | exact HK.out))) : w.heap.size ≤ gb278)); have GE278 := Aside0.mk ((Nat.le_trans HW0.out (by rw [hg]; exact (keep_size (w := w) (g := g) (row := none) (by repeat (first | (with_reducible first | exact HK.out | apply KeepBut.set_ | apply keep_drewN | apply keep_drew | apply keep_alloc) | exact HK.out))) : w.heap.size ≤ gb278) : w0.heap.size ≤ gb278)); replace HK := Aside0.mk (KeepBut.trans (by repeat (first | (with_reducible first | exact HK.out | apply KeepBut.set_ | apply keep_drewN | apply keep_drew | apply keep_alloc) | exact HK.out)) (KeepBut.of_below hb g none) (.inl rfl)); have NB0_278 := Aside0.mk ((by rw [hg]; exact Nat.ne_of_lt (IsS150.lt (show IsS150 w0 _ g s0_0 s0_1 s0_2 from by repeat (first | (with_reducible first | exact HI0.out | apply IsS150.alloc | apply IsS150.drewN | apply IsS150.drew | apply IsS150.set_1 | apply IsS150.set_2) | exact HI0.out))) : g ≠ gb278)); have NB278_0 := Aside0.mk ((by rw [hg]; exact Nat.ne_of_gt (IsS150.lt (show IsS150 w0 _ g s0_0 s0_1 s0_2 from by repeat (first | (with_reducible first | exact HI0.out | apply IsS150.alloc | apply IsS150.drewN | apply IsS150.drew | apply IsS150.set_1 | apply IsS150.set_2) | exact HI0.out))) : gb278 ≠ g)); replace HI0 := Aside0.mk (IsS150.below (by repeat (first | (with_reducible first | exact HI0.out | apply IsS150.alloc | apply IsS150.drewN | apply IsS150.drew | apply IsS150.set_1 | apply IsS150.set_2) | exact HI0.out)) hb); clear hb hbox hg) | ((with_reducible refine gd_ 3 rfl ?_); refine bv_ 3 #[.slice none 0 0] 29 ?_; intro gb279 hg w4 hbox hb; replace HB := Aside0.mk (below_step (by repeat (first | (with_reducible first | exact HB.out | apply below_alloc | apply pw_below_drewN | apply below_drew1 | refine below_set ?_ (IsS150.ge HI0.out) | refine below_set ?_ GE278.out) | exact HB.out)) hb); have BK279 := Aside0.mk (hbox); have GW279 := Aside0.mk ((by rw [hg]; exact (keep_size (w := w) (g := g) (row := none) (by repeat (first | (with_reducible first | exact HK.out | apply KeepBut.set_ | apply keep_drewN | apply keep_drew | apply keep_alloc | refine keep_far ?_ GW278.out _) | exact HK.out))) : w.heap.size ≤ gb279)); have GE279 := Aside0.mk ((Nat.le_trans HW0.out (by rw [hg]; exact (keep_size (w := w) (g := g) (row := none) (by repeat (first | (with_reducible first | exact HK.out | apply KeepBut.set_ | apply keep_drewN | apply keep_drew | apply keep_alloc | refine keep_far ?_ GW278.out _) | exact HK.out))) : w.heap.size ≤ gb279) : w0.heap.size ≤ gb279)); replace HK := Aside0.mk (KeepBut.trans (by repeat (first | (with_reducible first | exact HK.out | apply KeepBut.set_ | apply keep_drewN | apply keep_drew | apply keep_alloc | refine keep_far ?_ GW278.out _) | exact HK.out)) (KeepBut.of_below hb g none) (.inl rfl)); have NB278_279 := nl_ BK278 hg; have NB279_278 := ng_ BK278 hg; replace BK278 := bb_ BK278 hb; have NB0_279 := Aside0.mk ((by rw [hg]; exact Nat.ne_of_lt (IsS150.lt (show IsS150 w0 _ g s0_0 s0_1 s0_2 from by repeat (first | (with_reducible first | exact HI0.out | apply IsS150.alloc | apply IsS150.drewN | apply IsS150.drew | apply IsS150.set_1 | apply IsS150.set_2 | refine IsS150.far ?_ NB0_278.out _) | exact HI0.out))) : g ≠ gb279)); have NB279_0 := Aside0.mk ((by rw [hg]; exact Nat.ne_of_gt (IsS150.lt (show IsS150 w0 _ g s0_0 s0_1 s0_2 from by repeat (first | (with_reducible first | exact HI0.out | apply IsS150.alloc | apply IsS150.drewN | apply IsS150.drew | apply IsS150.set_1 | apply IsS150.set_2 | refine IsS150.far ?_ NB0_278.out _) | exact HI0.out))) : gb279 ≠ g)); replace HI0 := Aside0.mk (IsS150.below (by repeat (first | (with_reducible first | exact HI0.out | apply IsS150.alloc | apply IsS150.drewN | apply IsS150.drew | apply IsS150.set_1 | apply IsS150.set_2 | refine IsS150.far ?_ NB0_278.out _) | exact HI0.out)) hb); clear hb hbox hg; have hnb5 := NB279_278.out; have hnc5 := NB278_279.out; have hnb6 := NB279_0.out; have hnc6 := NB0_279.out; obtain ⟨hcz7_0, hfz7_0⟩ := bz1_ BK279) | ((with_reducible refine gc_ 154 rfl ?_); refine gl_ 9 Try.func154 #[.pointer (some ⟨g, 0, none⟩), .int .i64 40] ?_; (with_reducible refine (spec_l01Cur_size.calls g s0_0 s0_1 s0_2 40 t280 t281 t282 w0 _ ?side1 ?side2 A2.out).mono ?_); (case side1 => repeat (first | (with_reducible first | exact HI0.out | apply IsS150.alloc | apply IsS150.drewN | apply IsS150.drew | apply IsS150.set_1 | apply IsS150.set_2 | refine IsS150.far ?_ NB0_278.out _ | refine IsS150.far ?_ NB0_279.out _) | exact HI0.out)); (case side2 => repeat (first | (with_reducible first | exact HB.out | apply below_alloc | apply pw_below_drewN | apply below_drew1 | refine below_set ?_ (IsS150.ge HI0.out) | refine below_set ?_ GE278.out | refine below_set ?_ GE279.out) | exact HB.out)); rintro e w8 ⟨rfl, hi, hb, hk⟩; refine ⟨_, rfl, ?_⟩; replace BK278 := Aside0.mk (KeepBut.blk hk (g' := gb278) (o := .cells #[.slice none 0 0] 29 (0, 0)) (bl_ BK278) NB278_0.out (by simp)); replace BK279 := Aside0.mk (KeepBut.blk hk (g' := gb279) (o := .cells #[.slice none 0 0] 29 (0, 0)) (by (with_reducible repeat (first | refine blk_drewN ?_ _ | refine blk_drew ?_ | refine blk_alloc ?_ _)); refine blk_put (cs := #[.slice none 0 0]) ?_ 0 _ rfl; exact bk_ BK279) NB279_0.out (by simp)); replace HK := Aside0.mk (KeepBut.trans (by repeat (first | (with_reducible first | exact HK.out | apply KeepBut.set_ | apply keep_drewN | apply keep_drew | apply keep_alloc | refine keep_far ?_ GW278.out _ | refine keep_far ?_ GW279.out _) | exact HK.out)) hk (.inl rfl)); replace HB := Aside0.mk (hb); replace HI0 := Aside0.mk (hi); (try clear hb); (try clear hb2); (try clear hk); (try clear hi)))
 go_loopg [4] k (fun kq v4 w' => ∃ (x4_1 : Int) (x1001_1 : Int) (x1002_1 : Int) (x280000_1 : List (S68)) (u280000 : Value), v4 = .int .i64 x4_1 ∧ Aside0 (spec_l01Cur_heap.l0 kq x4_1 s0_0 x1001_1 x1002_1 x280000_1 = some (r1, r2, r3)) ∧ Aside0 (kq ≤ k) ∧ Aside0 (Kd.R k68 68 w' w.heap.size (fun _ => True) u280000 x280000_1) ∧ Aside0 (w'.heap[gb278]? = some (.cells #[(.slice none 0 0)] 29 (0, 0))) ∧ Aside0 (w'.heap[gb279]? = some (.cells #[u280000] 29 (0, 0))) ∧ Aside0 (IsS150 w0 w' g s0_0 x1001_1 x1002_1) ∧ Aside0 (KeepBut w w' g none) ∧ Aside0 (Below w0.heap.size w0 w'))
 case atStart => exact ⟨(t280), (t281), (t282), (([] : List (S68))), (.slice none 0 0), (by first | rfl | (simp; done) | (simp [*]; done)), H', ⟨Nat.le_refl _⟩, ⟨by first | exact Kd.R_nil _ _ _ _ _ | exact Kd.N_nil _ _ _ _ _ | exact Kd.V_nil _ _ _ _ _ | exact Kd.Q_nil _ _ _ _ _ | exact Kd.S_nil _ _ _ _ _⟩, ⟨bk_ BK278⟩, ⟨bk_ BK279⟩, ⟨by repeat (first | (with_reducible first | exact HI0.out | apply IsS150.alloc | apply IsS150.drewN | apply IsS150.drew | apply IsS150.set_1 | apply IsS150.set_2 | refine IsS150.far ?_ NB0_278.out _ | refine IsS150.far ?_ NB0_279.out _) | exact HI0.out)⟩, ⟨by repeat (first | (with_reducible first | exact HK.out | apply KeepBut.set_ | apply keep_drewN | apply keep_drew | apply keep_alloc | refine keep_far ?_ GW278.out _ | refine keep_far ?_ GW279.out _) | exact HK.out)⟩, ⟨by repeat (first | (with_reducible first | exact HB.out | apply below_alloc | apply pw_below_drewN | apply below_drew1 | refine below_set ?_ (IsS150.ge HI0.out) | refine below_set ?_ GE278.out | refine below_set ?_ GE279.out) | exact HB.out)⟩⟩
 case round =>
  clear H'
  (try clear c1); (try clear p2); (try clear c5); (try clear c6); (try clear hcz7_0 hfz7_0)
  obtain ⟨x4_1, x1001_1, x1002_1, x280000_1, u280000, rfl, HA, HK1, HO_280000, BK278, BK279, HI0, HK, HB⟩ := hrel
  cases gk with
  | zero => exact absurd HA.out (by simp [spec_l01Cur_heap.l0])
  | succ k1 =>
   have H := HA.out
   clear HA
   simp only [spec_l01Cur_heap.l0] at H
   by_cases c9 : x4_1 > 0
   ·rw [if_pos c9] at H
    have c9b0 : decide (0 < x4_1) = true := decide_eq_true c9
    clear c9
    replace H := Option.bind_eq_some_iff.mp H
    obtain ⟨⟨t283, t284, t285, t286⟩, A100, H⟩ := H
    have A10 := Aside0.mk A100
    clear A100
    replace H := Option.bind_eq_some_iff.mp H
    obtain ⟨⟨t287, t290⟩, A110, H⟩ := H
    have A11 := Aside0.mk A110
    clear A110
    by_cases c12 : t290 = 0
    ·rw [if_pos c12] at H
     have c12b0 : (t290 == 0) = true := beq_iff_eq.mpr c12
     have c12b1 : (t290 != 0) = false := bne_eq_false_iff_eq.mpr c12
     clear c12
     have H' := Aside0.mk H
     clear H
     obtain ⟨Ao13, co13, eo13⟩ := Kd.R_slice HO_280000.out
     subst eo13
     try go_wp2
     have n0_ := Aside0.mk (Kd.R_drew HO_280000.out); have n1_ := Aside0.mk (blk_drew BK278.out); have n2_ := Aside0.mk (blk_drew BK279.out); have n3_ := Aside0.mk (IsS150.drew HI0.out); have n4_ := Aside0.mk (keep_drew HK.out); have n5_ := Aside0.mk (below_drew1 HB.out); clear HO_280000 BK278 BK279 HI0 HK HB; have HO_280000 := n0_; have BK278 := n1_; have BK279 := n2_
     have HI0 := n3_
     have HK := n4_
     have HB := n5_; clear n0_ n1_ n2_ n3_ n4_ n5_
     refine start_ (n := 10) (S := fun w' => cw_ w' gb279 0 (.slice Ao13 x280000_1.length co13)) (ds := []) (bs 10 0) (by kernel_rfl) rfl rfl ((blk_cell BK279.out 0).trans rfl) (fun hHeld => ?_); refine with_tabW spec_l01Cur_heap.tab5 spec_l01Cur_heap.bits5 (fun HT_ HW_ => ?_)
     generalize wr.drew = w14 at HO_280000 BK278 BK279 HI0 HK HB hHeld ⊢
     refine ps_ 1 16 (bm 10 2) HT_ ?_
     refine tk_ 0 15 (bs 10 2) HT_ HW_ hHeld ?_
     refine join_ (σ := Value × Nat) 2 (bs 10 8) (fun s_ => [(17, .agg #[.int .i64 t283, .int .i64 t284]), (18, .tuple #[.agg #[s_.1], .int .i64 t290]), (5, .pointer (some ⟨s_.2, 0, none⟩)), (14, .tuple #[.agg #[s_.1], .int .i64 t290]), (19, .agg #[s_.1]), (20, .int .i64 t290)]) (fun s_ w' => (w'.cell? ⟨gb279, 0, none⟩ = some (.slice Ao13 x280000_1.length co13)) ∧ (Kd.R k68 68 w' w.heap.size (fun k_ => some k_ ≠ (.slice Ao13 x280000_1.length co13 : Value).ownBlock) s_.1 t287) ∧ (Kd.R k68 68 w' w.heap.size (fun k_ => some k_ ≠ (s_.1 : Value).ownBlock) (.slice Ao13 x280000_1.length co13) x280000_1) ∧ (w'.heap[gb278]? = some (.cells #[.slice none 0 0] 29 (0, 0))) ∧ (w'.heap[gb279]? = some (.cells #[.slice Ao13 x280000_1.length co13] 29 (0, 0))) ∧ (w'.heap[s_.2]? = some (.cells #[.slice none 0 0] 29 (0, 0))) ∧ (w.heap.size ≤ s_.2) ∧ (w0.heap.size ≤ s_.2) ∧ (g ≠ s_.2) ∧ (s_.2 ≠ g) ∧ (gb278 ≠ s_.2) ∧ (s_.2 ≠ gb278) ∧ (gb279 ≠ s_.2) ∧ (s_.2 ≠ gb279) ∧ (IsS150 w0 w' g s0_0 t285 t286) ∧ (KeepBut w w' g none) ∧ (Below w0.heap.size w0 w')) ?_ ?_
     rotate_left
     ·intro hCont
      refine two_ (i := 2) (j := 7) (Ni := some 17) (Nj := some 5) (bs 10 3) (bm 10 131) rfl rfl rfl rfl (two_of HT_.out (by kernel_rfl)) (by decide) (by decide) (fun K hK => ?_) (fun K hK => ?_)
      ·skip
       refine gs_ Try.func136 #[.pointer (some ⟨g, 0, none⟩)] ?_
       with_reducible refine (spec_l01Cur_item.calls g s0_0 x1001_1 x1002_1 t283 t284 t285 t286 w0 _ ?side1 ?side2 A10.out).mono ?_
       (case side1 => repeat (first | (with_reducible first | exact HI0.out | apply IsS150.alloc | apply IsS150.drewN | apply IsS150.drew | apply IsS150.set_1 | apply IsS150.set_2 | refine IsS150.far ?_ NB0_278.out _ | refine IsS150.far ?_ NB0_279.out _) | exact HI0.out))
       (case side2 => repeat (first | (with_reducible first | exact HB.out | apply below_alloc | apply pw_below_drewN | apply below_drew1 | refine below_set ?_ (IsS150.ge HI0.out) | refine below_set ?_ GE278.out | refine below_set ?_ GE279.out) | exact HB.out))
       rintro e w15 ⟨rfl, hi, hb, hk⟩
       refine ⟨_, rfl, ?_⟩
       have n0_ := Aside0.mk (Kd.R_mono (Kd.R_keep (IsS150.apart (show IsS150 w0 _ g s0_0 x1001_1 x1002_1 from by repeat (first | (with_reducible first | exact HI0.out | apply IsS150.alloc | apply IsS150.drewN | apply IsS150.drew | apply IsS150.set_1 | apply IsS150.set_2 | refine IsS150.far ?_ NB0_278.out _ | refine IsS150.far ?_ NB0_279.out _) | exact HI0.out)) (kr_ HO_280000) (by decide)) hk (fun _ h => h.2)) (fun _ h => h.1))
       have n1_ := Aside0.mk (KeepBut.blk hk (g' := gb278) (o := .cells #[.slice none 0 0] 29 (0, 0)) (bk_ BK278) NB278_0.out (by simp))
       have n2_ := Aside0.mk (KeepBut.blk hk (g' := gb279) (o := .cells #[.slice Ao13 x280000_1.length co13] 29 (0, 0)) (bk_ BK279) NB279_0.out (by simp))
       have n3_ := Aside0.mk (KeepBut.trans (by repeat (first | (with_reducible first | exact HK.out | apply KeepBut.set_ | apply keep_drewN | apply keep_drew | apply keep_alloc | refine keep_far ?_ GW278.out _ | refine keep_far ?_ GW279.out _) | exact HK.out)) hk (.inl rfl))
       have n4_ := Aside0.mk (hb); have n5_ := Aside0.mk (hi); clear HO_280000 BK278 BK279 HK HB HI0; have HO_280000 := n0_; have BK278 := n1_; have BK279 := n2_
       have HK := n3_
       have HB := n4_
       have HI0 := n5_
       clear n0_ n1_ n2_ n3_ n4_ n5_; (try clear hb); (try clear hb2); (try clear hk); (try clear hi)
       refine hK.out _ _ ((blk_cell BK279.out 0).trans rfl) (fun hHeld => ?_)
       clear hK K
       refine norm_ (a' := ?_) ?_ ?_
       rotate_left
       ·show Act.put _ (some 17) _ = _
        simp only [Act.put, ls0_, ls1_, ls2_, i64_w, i32_w]
        rfl
       refine two_ (i := 3) (j := 7) (Ni := some 18) (Nj := some 5) (bs 10 4) (bm 10 135) rfl rfl rfl rfl (two_of HT_.out (by kernel_rfl)) (by decide) (by decide) (fun K hK => ?_) (fun K hK => ?_)
       ·skip
        refine gs_ Try.func155 #[.agg #[.slice Ao13 x280000_1.length co13], .agg #[.int .i64 t283, .int .i64 t284]] ?_
        with_reducible refine (spec_HeapPush.calls k1 _ _ x280000_1 t283 t284 t287 t290 _ ?side1 ?side2 A11.out).mono ?_
        (case side1 => exact cr_ HO_280000)
        (case side2 => exact (Kd.R_reads' HO_280000.out).2.1)
        rintro e w16 ⟨v288, rfl, ho0, hb⟩
        refine ⟨_, rfl, ?_⟩
        have n0_ := Aside0.mk (Kd.R_elder' (kr_ HO_280000) (Kd.R_base ho0) hb)
        have n1_ := Aside0.mk (Kd.R_lower (Kd.R_new' ho0 (Kd.R_lt (kr_ HO_280000))) (keep_size (w := w) (g := g) (row := none) (by repeat (first | (with_reducible first | exact HK.out | apply KeepBut.set_ | apply keep_drewN | apply keep_drew | apply keep_alloc | refine keep_far ?_ GW278.out _ | refine keep_far ?_ GW279.out _) | exact HK.out))))
        have n2_ := bb_ BK278 hb; have n3_ := bb_ BK279 hb
        have n4_ := Aside0.mk (IsS150.below (by repeat (first | (with_reducible first | exact HI0.out | apply IsS150.alloc | apply IsS150.drewN | apply IsS150.drew | apply IsS150.set_1 | apply IsS150.set_2 | refine IsS150.far ?_ NB0_278.out _ | refine IsS150.far ?_ NB0_279.out _) | exact HI0.out)) hb)
        have n5_ := Aside0.mk (KeepBut.trans (by repeat (first | (with_reducible first | exact HK.out | apply KeepBut.set_ | apply keep_drewN | apply keep_drew | apply keep_alloc | refine keep_far ?_ GW278.out _ | refine keep_far ?_ GW279.out _) | exact HK.out)) (KeepBut.of_below hb g none) (.inl rfl))
        have n6_ := Aside0.mk (below_step (by repeat (first | (with_reducible first | exact HB.out | apply below_alloc | apply pw_below_drewN | apply below_drew1 | refine below_set ?_ (IsS150.ge HI0.out) | refine below_set ?_ GE278.out | refine below_set ?_ GE279.out) | exact HB.out)) hb)
        clear HO_280000 BK278 BK279 HI0 HK HB; have HO_280000 := n0_; have HO289 := n1_; have BK278 := n2_; have BK279 := n3_
        have HI0 := n4_
        have HK := n5_
        have HB := n6_; clear n0_ n1_ n2_ n3_ n4_ n5_ n6_; (try clear hb); (try clear hb2); (try clear hk); (try clear hi); (try clear ho0)
        refine hK.out _ _ ((blk_cell BK279.out 0).trans rfl) (fun hHeld => ?_)
        clear hK K
        refine norm_ (a' := ?_) ?_ ?_
        rotate_left
        ·show Act.put _ (some 18) _ = _
         simp only [Act.put, ls0_, ls1_, ls2_, i64_w, i32_w]
         rfl
        refine ps_ 4 14 (bs 10 5) HT_ ?_
        iterate 2 (refine psn_ HT_ ?_)
        refine on_ 7 (some 5) (bs 10 8) HT_ (fun K hK => ?_)
        refine box_step ?hg (N := 5) ?hd (cs := #[.slice none 0 0]) (t := 29) ?hr ?_; (case hd => rfl); (case hg => rfl); (case hr => first | (go_simp; done) | (go_simp; rfl))
        intro gb291 hg w17 hbox hb
        have n0_ := Aside0.mk (Kd.R_below (kr_ HO_280000) hb); have n1_ := Aside0.mk (Kd.R_below (kr_ HO289) hb); have n2_ := bb_ BK278 hb; have n3_ := bb_ BK279 hb
        have n4_ := Aside0.mk (IsS150.below (by repeat (first | (with_reducible first | exact HI0.out | apply IsS150.alloc | apply IsS150.drewN | apply IsS150.drew | apply IsS150.set_1 | apply IsS150.set_2 | refine IsS150.far ?_ NB0_278.out _ | refine IsS150.far ?_ NB0_279.out _) | exact HI0.out)) hb)
        have n5_ := Aside0.mk (KeepBut.trans (by repeat (first | (with_reducible first | exact HK.out | apply KeepBut.set_ | apply keep_drewN | apply keep_drew | apply keep_alloc | refine keep_far ?_ GW278.out _ | refine keep_far ?_ GW279.out _) | exact HK.out)) (KeepBut.of_below hb g none) (.inl rfl))
        have n6_ := Aside0.mk (below_step (by repeat (first | (with_reducible first | exact HB.out | apply below_alloc | apply pw_below_drewN | apply below_drew1 | refine below_set ?_ (IsS150.ge HI0.out) | refine below_set ?_ GE278.out | refine below_set ?_ GE279.out) | exact HB.out)) hb)
        have n7_ := Aside0.mk (hbox)
        have n8_ := Aside0.mk ((by rw [hg]; exact (keep_size (w := w) (g := g) (row := none) (by repeat (first | (with_reducible first | exact HK.out | apply KeepBut.set_ | apply keep_drewN | apply keep_drew | apply keep_alloc | refine keep_far ?_ GW278.out _ | refine keep_far ?_ GW279.out _) | exact HK.out))) : w.heap.size ≤ gb291))
        have n9_ := Aside0.mk ((Nat.le_trans HW0.out (by rw [hg]; exact (keep_size (w := w) (g := g) (row := none) (by repeat (first | (with_reducible first | exact HK.out | apply KeepBut.set_ | apply keep_drewN | apply keep_drew | apply keep_alloc | refine keep_far ?_ GW278.out _ | refine keep_far ?_ GW279.out _) | exact HK.out))) : w.heap.size ≤ gb291) : w0.heap.size ≤ gb291))
        have n10_ := nl_ BK278 hg; have n11_ := ng_ BK278 hg; have n12_ := nl_ BK279 hg; have n13_ := ng_ BK279 hg
        have n14_ := Aside0.mk ((by rw [hg]; exact Nat.ne_of_lt (IsS150.lt (show IsS150 w0 _ g s0_0 t285 t286 from by repeat (first | (with_reducible first | exact HI0.out | apply IsS150.alloc | apply IsS150.drewN | apply IsS150.drew | apply IsS150.set_1 | apply IsS150.set_2 | refine IsS150.far ?_ NB0_278.out _ | refine IsS150.far ?_ NB0_279.out _) | exact HI0.out))) : g ≠ gb291))
        have n15_ := Aside0.mk ((by rw [hg]; exact Nat.ne_of_gt (IsS150.lt (show IsS150 w0 _ g s0_0 t285 t286 from by repeat (first | (with_reducible first | exact HI0.out | apply IsS150.alloc | apply IsS150.drewN | apply IsS150.drew | apply IsS150.set_1 | apply IsS150.set_2 | refine IsS150.far ?_ NB0_278.out _ | refine IsS150.far ?_ NB0_279.out _) | exact HI0.out))) : gb291 ≠ g))
        clear HO_280000 HO289 BK278 BK279 HI0 HK HB; have HO_280000 := n0_; have HO289 := n1_; have BK278 := n2_; have BK279 := n3_
        have HI0 := n4_
        have HK := n5_
        have HB := n6_; have BK291 := n7_; have GW291 := n8_; have GE291 := n9_; have NB278_291 := n10_; have NB291_278 := n11_; have NB279_291 := n12_; have NB291_279 := n13_; have NB0_291 := n14_; have NB291_0 := n15_; clear n0_ n1_ n2_ n3_ n4_ n5_ n6_ n7_ n8_ n9_ n10_ n11_ n12_ n13_ n14_ n15_ hb hbox hg
        refine hK.out _ _ ((blk_cell BK279.out 0).trans rfl) (fun hHeld => ?_)
        clear hK K
        refine norm_ (a' := ?_) ?_ ?_
        rotate_left
        ·show Act.put _ (some 5) _ = _
         simp only [Act.put, ls0_, ls1_, ls2_, i64_w, i32_w]
         rfl
        exact norm_ (by simp only [putAll, Act.put, ls0_, ls1_, ls2_]) (hCont (v288, gb291) _ ⟨hHeld, (by (with_reducible repeat (first | apply Kd.R_alloc | apply Kd.R_drewN | apply Kd.R_drew)); exact Kd.R_mono HO289.out (fun _ hk => by first | exact hk.2 | grind)), (by (with_reducible repeat (first | apply Kd.R_alloc | apply Kd.R_drewN | apply Kd.R_drew)); exact Kd.R_mono HO_280000.out (fun _ hk => by first | exact hk.2 | grind)), (bk_ BK278), (bk_ BK279), (bk_ BK291), GW291.out, GE291.out, NB0_291.out, NB291_0.out, NB278_291.out, NB291_278.out, NB279_291.out, NB291_279.out, (by repeat (first | (with_reducible first | exact HI0.out | apply IsS150.alloc | apply IsS150.drewN | apply IsS150.drew | apply IsS150.set_1 | apply IsS150.set_2 | refine IsS150.far ?_ NB0_278.out _ | refine IsS150.far ?_ NB0_279.out _ | refine IsS150.far ?_ NB0_291.out _) | exact HI0.out)), (by repeat (first | (with_reducible first | exact HK.out | apply KeepBut.set_ | apply keep_drewN | apply keep_drew | apply keep_alloc | refine keep_far ?_ GW278.out _ | refine keep_far ?_ GW279.out _ | refine keep_far ?_ GW291.out _) | exact HK.out)), (by repeat (first | (with_reducible first | exact HB.out | apply below_alloc | apply pw_below_drewN | apply below_drew1 | refine below_set ?_ (IsS150.ge HI0.out) | refine below_set ?_ GE278.out | refine below_set ?_ GE279.out | refine below_set ?_ GE291.out) | exact HB.out))⟩)
       ·skip
        refine box_step ?hg (N := 5) ?hd (cs := #[.slice none 0 0]) (t := 29) ?hr ?_; (case hd => rfl); (case hg => rfl); (case hr => first | (go_simp; done) | (go_simp; rfl))
        intro gb291 hg w16 hbox hb
        have n0_ := Aside0.mk (Kd.R_below (kr_ HO_280000) hb); have n1_ := bb_ BK278 hb; have n2_ := bb_ BK279 hb
        have n3_ := Aside0.mk (IsS150.below (by repeat (first | (with_reducible first | exact HI0.out | apply IsS150.alloc | apply IsS150.drewN | apply IsS150.drew | apply IsS150.set_1 | apply IsS150.set_2 | refine IsS150.far ?_ NB0_278.out _ | refine IsS150.far ?_ NB0_279.out _) | exact HI0.out)) hb)
        have n4_ := Aside0.mk (KeepBut.trans (by repeat (first | (with_reducible first | exact HK.out | apply KeepBut.set_ | apply keep_drewN | apply keep_drew | apply keep_alloc | refine keep_far ?_ GW278.out _ | refine keep_far ?_ GW279.out _) | exact HK.out)) (KeepBut.of_below hb g none) (.inl rfl))
        have n5_ := Aside0.mk (below_step (by repeat (first | (with_reducible first | exact HB.out | apply below_alloc | apply pw_below_drewN | apply below_drew1 | refine below_set ?_ (IsS150.ge HI0.out) | refine below_set ?_ GE278.out | refine below_set ?_ GE279.out) | exact HB.out)) hb)
        have n6_ := Aside0.mk (hbox)
        have n7_ := Aside0.mk ((by rw [hg]; exact (keep_size (w := w) (g := g) (row := none) (by repeat (first | (with_reducible first | exact HK.out | apply KeepBut.set_ | apply keep_drewN | apply keep_drew | apply keep_alloc | refine keep_far ?_ GW278.out _ | refine keep_far ?_ GW279.out _) | exact HK.out))) : w.heap.size ≤ gb291))
        have n8_ := Aside0.mk ((Nat.le_trans HW0.out (by rw [hg]; exact (keep_size (w := w) (g := g) (row := none) (by repeat (first | (with_reducible first | exact HK.out | apply KeepBut.set_ | apply keep_drewN | apply keep_drew | apply keep_alloc | refine keep_far ?_ GW278.out _ | refine keep_far ?_ GW279.out _) | exact HK.out))) : w.heap.size ≤ gb291) : w0.heap.size ≤ gb291))
        have n9_ := nl_ BK278 hg; have n10_ := ng_ BK278 hg; have n11_ := nl_ BK279 hg; have n12_ := ng_ BK279 hg
        have n13_ := Aside0.mk ((by rw [hg]; exact Nat.ne_of_lt (IsS150.lt (show IsS150 w0 _ g s0_0 t285 t286 from by repeat (first | (with_reducible first | exact HI0.out | apply IsS150.alloc | apply IsS150.drewN | apply IsS150.drew | apply IsS150.set_1 | apply IsS150.set_2 | refine IsS150.far ?_ NB0_278.out _ | refine IsS150.far ?_ NB0_279.out _) | exact HI0.out))) : g ≠ gb291))
        have n14_ := Aside0.mk ((by rw [hg]; exact Nat.ne_of_gt (IsS150.lt (show IsS150 w0 _ g s0_0 t285 t286 from by repeat (first | (with_reducible first | exact HI0.out | apply IsS150.alloc | apply IsS150.drewN | apply IsS150.drew | apply IsS150.set_1 | apply IsS150.set_2 | refine IsS150.far ?_ NB0_278.out _ | refine IsS150.far ?_ NB0_279.out _) | exact HI0.out))) : gb291 ≠ g))
        clear HO_280000 BK278 BK279 HI0 HK HB; have HO_280000 := n0_; have BK278 := n1_; have BK279 := n2_
        have HI0 := n3_
        have HK := n4_
        have HB := n5_; have BK291 := n6_; have GW291 := n7_; have GE291 := n8_; have NB278_291 := n9_; have NB291_278 := n10_; have NB279_291 := n11_; have NB291_279 := n12_; have NB0_291 := n13_; have NB291_0 := n14_; clear n0_ n1_ n2_ n3_ n4_ n5_ n6_ n7_ n8_ n9_ n10_ n11_ n12_ n13_ n14_ hb hbox hg
        refine hK.out _ _ ((blk_cell BK279.out 0).trans rfl) (fun hHeld => ?_)
        clear hK K
        refine norm_ (a' := ?_) ?_ ?_
        rotate_left
        ·show Act.put _ (some 5) _ = _
         simp only [Act.put, ls0_, ls1_, ls2_, i64_w, i32_w]
         rfl
        refine on_ 3 (some 18) (bm 10 143) HT_ (fun K hK => ?_)
        refine gs_ Try.func155 #[.agg #[.slice Ao13 x280000_1.length co13], .agg #[.int .i64 t283, .int .i64 t284]] ?_
        with_reducible refine (spec_HeapPush.calls k1 _ _ x280000_1 t283 t284 t287 t290 _ ?side1 ?side2 A11.out).mono ?_
        (case side1 => exact cr_ HO_280000)
        (case side2 => exact (Kd.R_reads' HO_280000.out).2.1)
        rintro e w17 ⟨v288, rfl, ho0, hb⟩
        refine ⟨_, rfl, ?_⟩
        have n0_ := Aside0.mk (Kd.R_elder' (kr_ HO_280000) (Kd.R_base ho0) hb)
        have n1_ := Aside0.mk (Kd.R_lower (Kd.R_new' ho0 (Kd.R_lt (kr_ HO_280000))) (keep_size (w := w) (g := g) (row := none) (by repeat (first | (with_reducible first | exact HK.out | apply KeepBut.set_ | apply keep_drewN | apply keep_drew | apply keep_alloc | refine keep_far ?_ GW278.out _ | refine keep_far ?_ GW279.out _ | refine keep_far ?_ GW291.out _) | exact HK.out))))
        have n2_ := bb_ BK278 hb; have n3_ := bb_ BK279 hb
        have n4_ := Aside0.mk (IsS150.below (by repeat (first | (with_reducible first | exact HI0.out | apply IsS150.alloc | apply IsS150.drewN | apply IsS150.drew | apply IsS150.set_1 | apply IsS150.set_2 | refine IsS150.far ?_ NB0_278.out _ | refine IsS150.far ?_ NB0_279.out _ | refine IsS150.far ?_ NB0_291.out _) | exact HI0.out)) hb)
        have n5_ := bb_ BK291 hb
        have n6_ := Aside0.mk (KeepBut.trans (by repeat (first | (with_reducible first | exact HK.out | apply KeepBut.set_ | apply keep_drewN | apply keep_drew | apply keep_alloc | refine keep_far ?_ GW278.out _ | refine keep_far ?_ GW279.out _ | refine keep_far ?_ GW291.out _) | exact HK.out)) (KeepBut.of_below hb g none) (.inl rfl))
        have n7_ := Aside0.mk (below_step (by repeat (first | (with_reducible first | exact HB.out | apply below_alloc | apply pw_below_drewN | apply below_drew1 | refine below_set ?_ (IsS150.ge HI0.out) | refine below_set ?_ GE278.out | refine below_set ?_ GE279.out | refine below_set ?_ GE291.out) | exact HB.out)) hb)
        clear HO_280000 BK278 BK279 HI0 BK291 HK HB; have HO_280000 := n0_; have HO289 := n1_; have BK278 := n2_; have BK279 := n3_
        have HI0 := n4_
        have BK291 := n5_
        have HK := n6_
        have HB := n7_; clear n0_ n1_ n2_ n3_ n4_ n5_ n6_ n7_; (try clear hb); (try clear hb2); (try clear hk); (try clear hi); (try clear ho0)
        refine hK.out _ _ ((blk_cell BK279.out 0).trans rfl) (fun hHeld => ?_)
        clear hK K
        refine norm_ (a' := ?_) ?_ ?_
        rotate_left
        ·show Act.put _ (some 18) _ = _
         simp only [Act.put, ls0_, ls1_, ls2_, i64_w, i32_w]
         rfl
        refine ps_ 4 14 (bm 10 159) HT_ ?_
        refine ps_ 5 19 (bm 10 191) HT_ ?_
        refine ps_ 6 20 (bs 10 8) HT_ ?_
        exact norm_ (by simp only [putAll, Act.put, ls0_, ls1_, ls2_]) (hCont (v288, gb291) _ ⟨hHeld, (by (with_reducible repeat (first | apply Kd.R_alloc | apply Kd.R_drewN | apply Kd.R_drew)); exact Kd.R_mono HO289.out (fun _ hk => by first | exact hk.2 | grind)), (by (with_reducible repeat (first | apply Kd.R_alloc | apply Kd.R_drewN | apply Kd.R_drew)); exact Kd.R_mono HO_280000.out (fun _ hk => by first | exact hk.2 | grind)), (bk_ BK278), (bk_ BK279), (bk_ BK291), GW291.out, GE291.out, NB0_291.out, NB291_0.out, NB278_291.out, NB291_278.out, NB279_291.out, NB291_279.out, (by repeat (first | (with_reducible first | exact HI0.out | apply IsS150.alloc | apply IsS150.drewN | apply IsS150.drew | apply IsS150.set_1 | apply IsS150.set_2 | refine IsS150.far ?_ NB0_278.out _ | refine IsS150.far ?_ NB0_279.out _ | refine IsS150.far ?_ NB0_291.out _) | exact HI0.out)), (by repeat (first | (with_reducible first | exact HK.out | apply KeepBut.set_ | apply keep_drewN | apply keep_drew | apply keep_alloc | refine keep_far ?_ GW278.out _ | refine keep_far ?_ GW279.out _ | refine keep_far ?_ GW291.out _) | exact HK.out)), (by repeat (first | (with_reducible first | exact HB.out | apply below_alloc | apply pw_below_drewN | apply below_drew1 | refine below_set ?_ (IsS150.ge HI0.out) | refine below_set ?_ GE278.out | refine below_set ?_ GE279.out | refine below_set ?_ GE291.out) | exact HB.out))⟩)
      ·skip
       refine box_step ?hg (N := 5) ?hd (cs := #[.slice none 0 0]) (t := 29) ?hr ?_; (case hd => rfl); (case hg => rfl); (case hr => first | (go_simp; done) | (go_simp; rfl))
       intro gb291 hg w15 hbox hb
       have n0_ := Aside0.mk (Kd.R_below (kr_ HO_280000) hb); have n1_ := bb_ BK278 hb; have n2_ := bb_ BK279 hb
       have n3_ := Aside0.mk (IsS150.below (by repeat (first | (with_reducible first | exact HI0.out | apply IsS150.alloc | apply IsS150.drewN | apply IsS150.drew | apply IsS150.set_1 | apply IsS150.set_2 | refine IsS150.far ?_ NB0_278.out _ | refine IsS150.far ?_ NB0_279.out _) | exact HI0.out)) hb)
       have n4_ := Aside0.mk (KeepBut.trans (by repeat (first | (with_reducible first | exact HK.out | apply KeepBut.set_ | apply keep_drewN | apply keep_drew | apply keep_alloc | refine keep_far ?_ GW278.out _ | refine keep_far ?_ GW279.out _) | exact HK.out)) (KeepBut.of_below hb g none) (.inl rfl))
       have n5_ := Aside0.mk (below_step (by repeat (first | (with_reducible first | exact HB.out | apply below_alloc | apply pw_below_drewN | apply below_drew1 | refine below_set ?_ (IsS150.ge HI0.out) | refine below_set ?_ GE278.out | refine below_set ?_ GE279.out) | exact HB.out)) hb)
       have n6_ := Aside0.mk (hbox)
       have n7_ := Aside0.mk ((by rw [hg]; exact (keep_size (w := w) (g := g) (row := none) (by repeat (first | (with_reducible first | exact HK.out | apply KeepBut.set_ | apply keep_drewN | apply keep_drew | apply keep_alloc | refine keep_far ?_ GW278.out _ | refine keep_far ?_ GW279.out _) | exact HK.out))) : w.heap.size ≤ gb291))
       have n8_ := Aside0.mk ((Nat.le_trans HW0.out (by rw [hg]; exact (keep_size (w := w) (g := g) (row := none) (by repeat (first | (with_reducible first | exact HK.out | apply KeepBut.set_ | apply keep_drewN | apply keep_drew | apply keep_alloc | refine keep_far ?_ GW278.out _ | refine keep_far ?_ GW279.out _) | exact HK.out))) : w.heap.size ≤ gb291) : w0.heap.size ≤ gb291))
       have n9_ := nl_ BK278 hg; have n10_ := ng_ BK278 hg; have n11_ := nl_ BK279 hg; have n12_ := ng_ BK279 hg
       have n13_ := Aside0.mk ((by rw [hg]; exact Nat.ne_of_lt (IsS150.lt (show IsS150 w0 _ g s0_0 x1001_1 x1002_1 from by repeat (first | (with_reducible first | exact HI0.out | apply IsS150.alloc | apply IsS150.drewN | apply IsS150.drew | apply IsS150.set_1 | apply IsS150.set_2 | refine IsS150.far ?_ NB0_278.out _ | refine IsS150.far ?_ NB0_279.out _) | exact HI0.out))) : g ≠ gb291))
       have n14_ := Aside0.mk ((by rw [hg]; exact Nat.ne_of_gt (IsS150.lt (show IsS150 w0 _ g s0_0 x1001_1 x1002_1 from by repeat (first | (with_reducible first | exact HI0.out | apply IsS150.alloc | apply IsS150.drewN | apply IsS150.drew | apply IsS150.set_1 | apply IsS150.set_2 | refine IsS150.far ?_ NB0_278.out _ | refine IsS150.far ?_ NB0_279.out _) | exact HI0.out))) : gb291 ≠ g))
       clear HO_280000 BK278 BK279 HI0 HK HB; have HO_280000 := n0_; have BK278 := n1_; have BK279 := n2_
       have HI0 := n3_
       have HK := n4_
       have HB := n5_; have BK291 := n6_; have GW291 := n7_; have GE291 := n8_; have NB278_291 := n9_; have NB291_278 := n10_; have NB279_291 := n11_; have NB291_279 := n12_; have NB0_291 := n13_; have NB291_0 := n14_; clear n0_ n1_ n2_ n3_ n4_ n5_ n6_ n7_ n8_ n9_ n10_ n11_ n12_ n13_ n14_ hb hbox hg
       refine hK.out _ _ ((blk_cell BK279.out 0).trans rfl) (fun hHeld => ?_)
       clear hK K
       refine norm_ (a' := ?_) ?_ ?_
       rotate_left
       ·show Act.put _ (some 5) _ = _
        simp only [Act.put, ls0_, ls1_, ls2_, i64_w, i32_w]
        rfl
       refine on_ 2 (some 17) (bm 10 135) HT_ (fun K hK => ?_)
       refine gs_ Try.func136 #[.pointer (some ⟨g, 0, none⟩)] ?_
       with_reducible refine (spec_l01Cur_item.calls g s0_0 x1001_1 x1002_1 t283 t284 t285 t286 w0 _ ?side1 ?side2 A10.out).mono ?_
       (case side1 => repeat (first | (with_reducible first | exact HI0.out | apply IsS150.alloc | apply IsS150.drewN | apply IsS150.drew | apply IsS150.set_1 | apply IsS150.set_2 | refine IsS150.far ?_ NB0_278.out _ | refine IsS150.far ?_ NB0_279.out _ | refine IsS150.far ?_ NB0_291.out _) | exact HI0.out))
       (case side2 => repeat (first | (with_reducible first | exact HB.out | apply below_alloc | apply pw_below_drewN | apply below_drew1 | refine below_set ?_ (IsS150.ge HI0.out) | refine below_set ?_ GE278.out | refine below_set ?_ GE279.out | refine below_set ?_ GE291.out) | exact HB.out))
       rintro e w16 ⟨rfl, hi, hb, hk⟩
       refine ⟨_, rfl, ?_⟩
       have n0_ := Aside0.mk (Kd.R_mono (Kd.R_keep (IsS150.apart (show IsS150 w0 _ g s0_0 x1001_1 x1002_1 from by repeat (first | (with_reducible first | exact HI0.out | apply IsS150.alloc | apply IsS150.drewN | apply IsS150.drew | apply IsS150.set_1 | apply IsS150.set_2 | refine IsS150.far ?_ NB0_278.out _ | refine IsS150.far ?_ NB0_279.out _ | refine IsS150.far ?_ NB0_291.out _) | exact HI0.out)) (kr_ HO_280000) (by decide)) hk (fun _ h => h.2)) (fun _ h => h.1))
       have n1_ := Aside0.mk (KeepBut.blk hk (g' := gb278) (o := .cells #[.slice none 0 0] 29 (0, 0)) (bk_ BK278) NB278_0.out (by simp))
       have n2_ := Aside0.mk (KeepBut.blk hk (g' := gb279) (o := .cells #[.slice Ao13 x280000_1.length co13] 29 (0, 0)) (bk_ BK279) NB279_0.out (by simp))
       have n3_ := Aside0.mk (KeepBut.blk hk (g' := gb291) (o := .cells #[.slice none 0 0] 29 (0, 0)) (bk_ BK291) NB291_0.out (by simp))
       have n4_ := Aside0.mk (KeepBut.trans (by repeat (first | (with_reducible first | exact HK.out | apply KeepBut.set_ | apply keep_drewN | apply keep_drew | apply keep_alloc | refine keep_far ?_ GW278.out _ | refine keep_far ?_ GW279.out _ | refine keep_far ?_ GW291.out _) | exact HK.out)) hk (.inl rfl))
       have n5_ := Aside0.mk (hb); have n6_ := Aside0.mk (hi); clear HO_280000 BK278 BK279 BK291 HK HB HI0; have HO_280000 := n0_; have BK278 := n1_; have BK279 := n2_; have BK291 := n3_
       have HK := n4_
       have HB := n5_
       have HI0 := n6_
       clear n0_ n1_ n2_ n3_ n4_ n5_ n6_; (try clear hb); (try clear hb2); (try clear hk); (try clear hi)
       refine hK.out _ _ ((blk_cell BK279.out 0).trans rfl) (fun hHeld => ?_)
       clear hK K
       refine norm_ (a' := ?_) ?_ ?_
       rotate_left
       ·show Act.put _ (some 17) _ = _
        simp only [Act.put, ls0_, ls1_, ls2_, i64_w, i32_w]
        rfl
       refine on_ 3 (some 18) (bm 10 143) HT_ (fun K hK => ?_)
       refine gs_ Try.func155 #[.agg #[.slice Ao13 x280000_1.length co13], .agg #[.int .i64 t283, .int .i64 t284]] ?_
       with_reducible refine (spec_HeapPush.calls k1 _ _ x280000_1 t283 t284 t287 t290 _ ?side1 ?side2 A11.out).mono ?_
       (case side1 => exact cr_ HO_280000)
       (case side2 => exact (Kd.R_reads' HO_280000.out).2.1)
       rintro e w17 ⟨v288, rfl, ho0, hb⟩
       refine ⟨_, rfl, ?_⟩
       have n0_ := Aside0.mk (Kd.R_elder' (kr_ HO_280000) (Kd.R_base ho0) hb)
       have n1_ := Aside0.mk (Kd.R_lower (Kd.R_new' ho0 (Kd.R_lt (kr_ HO_280000))) (keep_size (w := w) (g := g) (row := none) (by repeat (first | (with_reducible first | exact HK.out | apply KeepBut.set_ | apply keep_drewN | apply keep_drew | apply keep_alloc | refine keep_far ?_ GW278.out _ | refine keep_far ?_ GW279.out _ | refine keep_far ?_ GW291.out _) | exact HK.out))))
       have n2_ := bb_ BK278 hb; have n3_ := bb_ BK279 hb
       have n4_ := Aside0.mk (IsS150.below (by repeat (first | (with_reducible first | exact HI0.out | apply IsS150.alloc | apply IsS150.drewN | apply IsS150.drew | apply IsS150.set_1 | apply IsS150.set_2 | refine IsS150.far ?_ NB0_278.out _ | refine IsS150.far ?_ NB0_279.out _ | refine IsS150.far ?_ NB0_291.out _) | exact HI0.out)) hb)
       have n5_ := bb_ BK291 hb
       have n6_ := Aside0.mk (KeepBut.trans (by repeat (first | (with_reducible first | exact HK.out | apply KeepBut.set_ | apply keep_drewN | apply keep_drew | apply keep_alloc | refine keep_far ?_ GW278.out _ | refine keep_far ?_ GW279.out _ | refine keep_far ?_ GW291.out _) | exact HK.out)) (KeepBut.of_below hb g none) (.inl rfl))
       have n7_ := Aside0.mk (below_step (by repeat (first | (with_reducible first | exact HB.out | apply below_alloc | apply pw_below_drewN | apply below_drew1 | refine below_set ?_ (IsS150.ge HI0.out) | refine below_set ?_ GE278.out | refine below_set ?_ GE279.out | refine below_set ?_ GE291.out) | exact HB.out)) hb)
       clear HO_280000 BK278 BK279 HI0 BK291 HK HB; have HO_280000 := n0_; have HO289 := n1_; have BK278 := n2_; have BK279 := n3_
       have HI0 := n4_
       have BK291 := n5_
       have HK := n6_
       have HB := n7_; clear n0_ n1_ n2_ n3_ n4_ n5_ n6_ n7_; (try clear hb); (try clear hb2); (try clear hk); (try clear hi); (try clear ho0)
       refine hK.out _ _ ((blk_cell BK279.out 0).trans rfl) (fun hHeld => ?_)
       clear hK K
       refine norm_ (a' := ?_) ?_ ?_
       rotate_left
       ·show Act.put _ (some 18) _ = _
        simp only [Act.put, ls0_, ls1_, ls2_, i64_w, i32_w]
        rfl
       refine ps_ 4 14 (bm 10 159) HT_ ?_
       refine ps_ 5 19 (bm 10 191) HT_ ?_
       refine ps_ 6 20 (bs 10 8) HT_ ?_
       exact norm_ (by simp only [putAll, Act.put, ls0_, ls1_, ls2_]) (hCont (v288, gb291) _ ⟨hHeld, (by (with_reducible repeat (first | apply Kd.R_alloc | apply Kd.R_drewN | apply Kd.R_drew)); exact Kd.R_mono HO289.out (fun _ hk => by first | exact hk.2 | grind)), (by (with_reducible repeat (first | apply Kd.R_alloc | apply Kd.R_drewN | apply Kd.R_drew)); exact Kd.R_mono HO_280000.out (fun _ hk => by first | exact hk.2 | grind)), (bk_ BK278), (bk_ BK279), (bk_ BK291), GW291.out, GE291.out, NB0_291.out, NB291_0.out, NB278_291.out, NB291_278.out, NB279_291.out, NB291_279.out, (by repeat (first | (with_reducible first | exact HI0.out | apply IsS150.alloc | apply IsS150.drewN | apply IsS150.drew | apply IsS150.set_1 | apply IsS150.set_2 | refine IsS150.far ?_ NB0_278.out _ | refine IsS150.far ?_ NB0_279.out _ | refine IsS150.far ?_ NB0_291.out _) | exact HI0.out)), (by repeat (first | (with_reducible first | exact HK.out | apply KeepBut.set_ | apply keep_drewN | apply keep_drew | apply keep_alloc | refine keep_far ?_ GW278.out _ | refine keep_far ?_ GW279.out _ | refine keep_far ?_ GW291.out _) | exact HK.out)), (by repeat (first | (with_reducible first | exact HB.out | apply below_alloc | apply pw_below_drewN | apply below_drew1 | refine below_set ?_ (IsS150.ge HI0.out) | refine below_set ?_ GE278.out | refine below_set ?_ GE279.out | refine below_set ?_ GE291.out) | exact HB.out))⟩)
     rintro ⟨v288, gb291⟩ w18 ⟨hS_, h0_, h1_, h2_, h3_, h4_, h5_, h6_, h7_, h8_, h9_, h10_, h11_, h12_, h13_, h14_, h15_⟩
     have n0_ : Aside0 (Kd.R k68 68 w18 w.heap.size (fun k_ => some k_ ≠ (.slice Ao13 x280000_1.length co13 : Value).ownBlock) v288 t287) := ⟨h0_⟩
     have n1_ : Aside0 (Kd.R k68 68 w18 w.heap.size (fun k_ => some k_ ≠ (v288 : Value).ownBlock) (.slice Ao13 x280000_1.length co13) x280000_1) := ⟨h1_⟩
     have n2_ : Aside0 (w18.heap[gb278]? = some (.cells #[.slice none 0 0] 29 (0, 0))) := ⟨h2_⟩
     have n3_ : Aside0 (w18.heap[gb279]? = some (.cells #[.slice Ao13 x280000_1.length co13] 29 (0, 0))) := ⟨h3_⟩
     have n4_ : Aside0 (w18.heap[gb291]? = some (.cells #[.slice none 0 0] 29 (0, 0))) := ⟨h4_⟩
     have n5_ : Aside0 (w.heap.size ≤ gb291) := ⟨h5_⟩
     have n6_ : Aside0 (w0.heap.size ≤ gb291) := ⟨h6_⟩
     have n7_ : Aside0 (g ≠ gb291) := ⟨h7_⟩
     have n8_ : Aside0 (gb291 ≠ g) := ⟨h8_⟩
     have n9_ : Aside0 (gb278 ≠ gb291) := ⟨h9_⟩
     have n10_ : Aside0 (gb291 ≠ gb278) := ⟨h10_⟩
     have n11_ : Aside0 (gb279 ≠ gb291) := ⟨h11_⟩
     have n12_ : Aside0 (gb291 ≠ gb279) := ⟨h12_⟩
     have n13_ : Aside0 (IsS150 w0 w18 g s0_0 t285 t286) := ⟨h13_⟩
     have n14_ : Aside0 (KeepBut w w18 g none) := ⟨h14_⟩
     have n15_ : Aside0 (Below w0.heap.size w0 w18) := ⟨h15_⟩
     clear HO_280000 BK278 BK279 HI0 HK HB h0_ h1_ h2_ h3_ h4_ h5_ h6_ h7_ h8_ h9_ h10_ h11_ h12_ h13_ h14_ h15_; have HO289 := n0_; have HO_280000 := n1_; have BK278 := n2_; have BK279 := n3_; have BK291 := n4_; have GW291 := n5_; have GE291 := n6_; have NB0_291 := n7_; have NB291_0 := n8_; have NB278_291 := n9_; have NB291_278 := n10_; have NB279_291 := n11_; have NB291_279 := n12_
     have HI0 := n13_
     have HK := n14_
     have HB := n15_; clear n0_ n1_ n2_ n3_ n4_ n5_ n6_ n7_ n8_ n9_ n10_ n11_ n12_ n13_ n14_ n15_
     have hHeld : w18.cell? ⟨gb279, 0, none⟩ = some (.slice Ao13 x280000_1.length co13) := hS_
     obtain ⟨Ao19, co19, eo19⟩ := Kd.R_slice HO289.out
     (first | subst eo19 | (injection eo19 with f1_ f2_ f3_; have f4_ := f1_.symm; have f5_ := f3_.symm; clear f1_ f2_ f3_; subst f4_; subst f5_))
     refine norm_ (a' := ?_) ?_ ?_
     rotate_left
     ·simp only [putAll, Act.put, ls0_, ls1_, ls2_]
      rfl
     refine on_ 8 none (bs 10 9) HT_ (fun K hK => ?_)
     have hs20 := bc_ BK291 0 (.slice none 0 0) rfl; have hfs20 := blk_frozen BK291.out 0; have hns20_0 := NB278_291.out; have hns20_1 := NB279_291.out; have hms20_0 := NB291_278.out; have hms20_1 := NB291_279.out
     refine skip_ (w1 := ?_) (by rfl) rfl ?_ ?_
     rotate_left
     ·go_simp
      rfl
     refine hK.out _ _ (cf1_ NB279_291.out hHeld) (fun hHeld => ?_)
     clear hK K
     refine psn_ HT_ ?_
     refine done_ (done_of HT_.out (by kernel_rfl)) ?_
     have hnb21 := NB291_278.out; have hnc21 := NB278_291.out; have hnb22 := NB291_279.out; have hnc22 := NB279_291.out; have hnb23 := NB291_0.out; have hnc23 := NB0_291.out; obtain ⟨hcz24_0, hfz24_0⟩ := bz1_ BK291; have hnb25 := NB279_278.out; have hnc25 := NB278_279.out; have hnb26 := NB279_0.out; have hnc26 := NB0_279.out; obtain ⟨hcz27_0, hfz27_0⟩ := bz1_ BK279
     try go_wp2
     go_roundg k1
     case measure => have := HK1.out; omega
     case rel => exact ⟨(wrap64 (x4_1 - 1)), (t285), (t286), (t287), (.slice Ao19 t287.length co19), (by first | rfl | (simp; done) | (simp [*]; done)), H', ⟨by have := HK1.out; omega⟩, ⟨by (with_reducible repeat (first | apply Kd.R_alloc | apply Kd.R_drewN | apply Kd.R_drew)); exact Kd.R_mono (Kd.R_far (p := ⟨gb279, 0, none⟩) (Kd.R_far (p := ⟨gb291, 0, none⟩) (Kd.R_types (Kd.R_types HO289.out BK291.out (by decide)) BK279.out (by decide)) (fun _ hk => by first | exact hk.1.2 | grind) (.slice Ao19 t287.length co19)) (fun _ hk => by first | exact hk.2 | grind) (.slice Ao19 t287.length co19)) (fun _ hk => by first | exact trivial | grind)⟩, ⟨by (with_reducible repeat (first | refine blk_drewN ?_ _ | refine blk_drew ?_ | refine blk_alloc ?_ _)); refine blk_far ?_ NB278_279.out _; (with_reducible repeat (first | refine blk_drewN ?_ _ | refine blk_drew ?_ | refine blk_alloc ?_ _)); refine blk_far ?_ NB278_291.out _; exact bk_ BK278⟩, ⟨by (with_reducible repeat (first | refine blk_drewN ?_ _ | refine blk_drew ?_ | refine blk_alloc ?_ _)); refine blk_put (cs := #[.slice Ao13 x280000_1.length co13]) ?_ 0 _ rfl; (with_reducible repeat (first | refine blk_drewN ?_ _ | refine blk_drew ?_ | refine blk_alloc ?_ _)); refine blk_far ?_ NB279_291.out _; exact bk_ BK279⟩, ⟨by repeat (first | (with_reducible first | exact HI0.out | apply IsS150.alloc | apply IsS150.drewN | apply IsS150.drew | apply IsS150.set_1 | apply IsS150.set_2 | refine IsS150.far ?_ NB0_278.out _ | refine IsS150.far ?_ NB0_279.out _ | refine IsS150.far ?_ NB0_291.out _) | exact HI0.out)⟩, ⟨by repeat (first | (with_reducible first | exact HK.out | apply KeepBut.set_ | apply keep_drewN | apply keep_drew | apply keep_alloc | refine keep_far ?_ GW278.out _ | refine keep_far ?_ GW279.out _ | refine keep_far ?_ GW291.out _) | exact HK.out)⟩, ⟨by repeat (first | (with_reducible first | exact HB.out | apply below_alloc | apply pw_below_drewN | apply below_drew1 | refine below_set ?_ (IsS150.ge HI0.out) | refine below_set ?_ GE278.out | refine below_set ?_ GE279.out | refine below_set ?_ GE291.out) | exact HB.out)⟩⟩
    ·rw [if_neg c12] at H
     have c12b0 : (t290 == 0) = false := beq_eq_false_iff_ne.mpr c12
     have c12b1 : (t290 != 0) = true := bne_iff_ne.mpr c12
     have H' := Aside0.mk H
     clear H
     obtain ⟨Ao28, co28, eo28⟩ := Kd.R_slice HO_280000.out
     subst eo28
     try go_wp2
     have n0_ := Aside0.mk (Kd.R_drew HO_280000.out); have n1_ := Aside0.mk (blk_drew BK278.out); have n2_ := Aside0.mk (blk_drew BK279.out); have n3_ := Aside0.mk (IsS150.drew HI0.out); have n4_ := Aside0.mk (keep_drew HK.out); have n5_ := Aside0.mk (below_drew1 HB.out); clear HO_280000 BK278 BK279 HI0 HK HB; have HO_280000 := n0_; have BK278 := n1_; have BK279 := n2_
     have HI0 := n3_
     have HK := n4_
     have HB := n5_; clear n0_ n1_ n2_ n3_ n4_ n5_
     refine start_ (n := 10) (S := fun w' => cw_ w' gb279 0 (.slice Ao28 x280000_1.length co28)) (ds := []) (bs 10 0) (by kernel_rfl) rfl rfl ((blk_cell BK279.out 0).trans rfl) (fun hHeld => ?_); refine with_tabW spec_l01Cur_heap.tab5 spec_l01Cur_heap.bits5 (fun HT_ HW_ => ?_)
     generalize wr.drew = w29 at HO_280000 BK278 BK279 HI0 HK HB hHeld ⊢
     refine ps_ 1 16 (bm 10 2) HT_ ?_
     refine tk_ 0 15 (bs 10 2) HT_ HW_ hHeld ?_
     refine join_ (σ := Value × Nat) 2 (bs 10 8) (fun s_ => [(17, .agg #[.int .i64 t283, .int .i64 t284]), (18, .tuple #[.agg #[s_.1], .int .i64 t290]), (5, .pointer (some ⟨s_.2, 0, none⟩)), (14, .tuple #[.agg #[s_.1], .int .i64 t290]), (19, .agg #[s_.1]), (20, .int .i64 t290)]) (fun s_ w' => (w'.cell? ⟨gb279, 0, none⟩ = some (.slice Ao28 x280000_1.length co28)) ∧ (Kd.R k68 68 w' w.heap.size (fun k_ => some k_ ≠ (.slice Ao28 x280000_1.length co28 : Value).ownBlock) s_.1 t287) ∧ (Kd.R k68 68 w' w.heap.size (fun k_ => some k_ ≠ (s_.1 : Value).ownBlock) (.slice Ao28 x280000_1.length co28) x280000_1) ∧ (w'.heap[gb278]? = some (.cells #[.slice none 0 0] 29 (0, 0))) ∧ (w'.heap[gb279]? = some (.cells #[.slice Ao28 x280000_1.length co28] 29 (0, 0))) ∧ (w'.heap[s_.2]? = some (.cells #[.slice none 0 0] 29 (0, 0))) ∧ (w.heap.size ≤ s_.2) ∧ (w0.heap.size ≤ s_.2) ∧ (g ≠ s_.2) ∧ (s_.2 ≠ g) ∧ (gb278 ≠ s_.2) ∧ (s_.2 ≠ gb278) ∧ (gb279 ≠ s_.2) ∧ (s_.2 ≠ gb279) ∧ (IsS150 w0 w' g s0_0 t285 t286) ∧ (KeepBut w w' g none) ∧ (Below w0.heap.size w0 w')) ?_ ?_
     rotate_left
     ·intro hCont
      refine two_ (i := 2) (j := 7) (Ni := some 17) (Nj := some 5) (bs 10 3) (bm 10 131) rfl rfl rfl rfl (two_of HT_.out (by kernel_rfl)) (by decide) (by decide) (fun K hK => ?_) (fun K hK => ?_)
      ·skip
       refine gs_ Try.func136 #[.pointer (some ⟨g, 0, none⟩)] ?_
       with_reducible refine (spec_l01Cur_item.calls g s0_0 x1001_1 x1002_1 t283 t284 t285 t286 w0 _ ?side1 ?side2 A10.out).mono ?_
       (case side1 => repeat (first | (with_reducible first | exact HI0.out | apply IsS150.alloc | apply IsS150.drewN | apply IsS150.drew | apply IsS150.set_1 | apply IsS150.set_2 | refine IsS150.far ?_ NB0_278.out _ | refine IsS150.far ?_ NB0_279.out _) | exact HI0.out))
       (case side2 => repeat (first | (with_reducible first | exact HB.out | apply below_alloc | apply pw_below_drewN | apply below_drew1 | refine below_set ?_ (IsS150.ge HI0.out) | refine below_set ?_ GE278.out | refine below_set ?_ GE279.out) | exact HB.out))
       rintro e w30 ⟨rfl, hi, hb, hk⟩
       refine ⟨_, rfl, ?_⟩
       have n0_ := Aside0.mk (Kd.R_mono (Kd.R_keep (IsS150.apart (show IsS150 w0 _ g s0_0 x1001_1 x1002_1 from by repeat (first | (with_reducible first | exact HI0.out | apply IsS150.alloc | apply IsS150.drewN | apply IsS150.drew | apply IsS150.set_1 | apply IsS150.set_2 | refine IsS150.far ?_ NB0_278.out _ | refine IsS150.far ?_ NB0_279.out _) | exact HI0.out)) (kr_ HO_280000) (by decide)) hk (fun _ h => h.2)) (fun _ h => h.1))
       have n1_ := Aside0.mk (KeepBut.blk hk (g' := gb278) (o := .cells #[.slice none 0 0] 29 (0, 0)) (bk_ BK278) NB278_0.out (by simp))
       have n2_ := Aside0.mk (KeepBut.blk hk (g' := gb279) (o := .cells #[.slice Ao28 x280000_1.length co28] 29 (0, 0)) (bk_ BK279) NB279_0.out (by simp))
       have n3_ := Aside0.mk (KeepBut.trans (by repeat (first | (with_reducible first | exact HK.out | apply KeepBut.set_ | apply keep_drewN | apply keep_drew | apply keep_alloc | refine keep_far ?_ GW278.out _ | refine keep_far ?_ GW279.out _) | exact HK.out)) hk (.inl rfl))
       have n4_ := Aside0.mk (hb); have n5_ := Aside0.mk (hi); clear HO_280000 BK278 BK279 HK HB HI0; have HO_280000 := n0_; have BK278 := n1_; have BK279 := n2_
       have HK := n3_
       have HB := n4_
       have HI0 := n5_
       clear n0_ n1_ n2_ n3_ n4_ n5_; (try clear hb); (try clear hb2); (try clear hk); (try clear hi)
       refine hK.out _ _ ((blk_cell BK279.out 0).trans rfl) (fun hHeld => ?_)
       clear hK K
       refine norm_ (a' := ?_) ?_ ?_
       rotate_left
       ·show Act.put _ (some 17) _ = _
        simp only [Act.put, ls0_, ls1_, ls2_, i64_w, i32_w]
        rfl
       refine two_ (i := 3) (j := 7) (Ni := some 18) (Nj := some 5) (bs 10 4) (bm 10 135) rfl rfl rfl rfl (two_of HT_.out (by kernel_rfl)) (by decide) (by decide) (fun K hK => ?_) (fun K hK => ?_)
       ·skip
        refine gs_ Try.func155 #[.agg #[.slice Ao28 x280000_1.length co28], .agg #[.int .i64 t283, .int .i64 t284]] ?_
        with_reducible refine (spec_HeapPush.calls k1 _ _ x280000_1 t283 t284 t287 t290 _ ?side1 ?side2 A11.out).mono ?_
        (case side1 => exact cr_ HO_280000)
        (case side2 => exact (Kd.R_reads' HO_280000.out).2.1)
        rintro e w31 ⟨v288, rfl, ho0, hb⟩
        refine ⟨_, rfl, ?_⟩
        have n0_ := Aside0.mk (Kd.R_elder' (kr_ HO_280000) (Kd.R_base ho0) hb)
        have n1_ := Aside0.mk (Kd.R_lower (Kd.R_new' ho0 (Kd.R_lt (kr_ HO_280000))) (keep_size (w := w) (g := g) (row := none) (by repeat (first | (with_reducible first | exact HK.out | apply KeepBut.set_ | apply keep_drewN | apply keep_drew | apply keep_alloc | refine keep_far ?_ GW278.out _ | refine keep_far ?_ GW279.out _) | exact HK.out))))
        have n2_ := bb_ BK278 hb; have n3_ := bb_ BK279 hb
        have n4_ := Aside0.mk (IsS150.below (by repeat (first | (with_reducible first | exact HI0.out | apply IsS150.alloc | apply IsS150.drewN | apply IsS150.drew | apply IsS150.set_1 | apply IsS150.set_2 | refine IsS150.far ?_ NB0_278.out _ | refine IsS150.far ?_ NB0_279.out _) | exact HI0.out)) hb)
        have n5_ := Aside0.mk (KeepBut.trans (by repeat (first | (with_reducible first | exact HK.out | apply KeepBut.set_ | apply keep_drewN | apply keep_drew | apply keep_alloc | refine keep_far ?_ GW278.out _ | refine keep_far ?_ GW279.out _) | exact HK.out)) (KeepBut.of_below hb g none) (.inl rfl))
        have n6_ := Aside0.mk (below_step (by repeat (first | (with_reducible first | exact HB.out | apply below_alloc | apply pw_below_drewN | apply below_drew1 | refine below_set ?_ (IsS150.ge HI0.out) | refine below_set ?_ GE278.out | refine below_set ?_ GE279.out) | exact HB.out)) hb)
        clear HO_280000 BK278 BK279 HI0 HK HB; have HO_280000 := n0_; have HO289 := n1_; have BK278 := n2_; have BK279 := n3_
        have HI0 := n4_
        have HK := n5_
        have HB := n6_; clear n0_ n1_ n2_ n3_ n4_ n5_ n6_; (try clear hb); (try clear hb2); (try clear hk); (try clear hi); (try clear ho0)
        refine hK.out _ _ ((blk_cell BK279.out 0).trans rfl) (fun hHeld => ?_)
        clear hK K
        refine norm_ (a' := ?_) ?_ ?_
        rotate_left
        ·show Act.put _ (some 18) _ = _
         simp only [Act.put, ls0_, ls1_, ls2_, i64_w, i32_w]
         rfl
        refine ps_ 4 14 (bs 10 5) HT_ ?_
        iterate 2 (refine psn_ HT_ ?_)
        refine on_ 7 (some 5) (bs 10 8) HT_ (fun K hK => ?_)
        refine box_step ?hg (N := 5) ?hd (cs := #[.slice none 0 0]) (t := 29) ?hr ?_; (case hd => rfl); (case hg => rfl); (case hr => first | (go_simp; done) | (go_simp; rfl))
        intro gb291 hg w32 hbox hb
        have n0_ := Aside0.mk (Kd.R_below (kr_ HO_280000) hb); have n1_ := Aside0.mk (Kd.R_below (kr_ HO289) hb); have n2_ := bb_ BK278 hb; have n3_ := bb_ BK279 hb
        have n4_ := Aside0.mk (IsS150.below (by repeat (first | (with_reducible first | exact HI0.out | apply IsS150.alloc | apply IsS150.drewN | apply IsS150.drew | apply IsS150.set_1 | apply IsS150.set_2 | refine IsS150.far ?_ NB0_278.out _ | refine IsS150.far ?_ NB0_279.out _) | exact HI0.out)) hb)
        have n5_ := Aside0.mk (KeepBut.trans (by repeat (first | (with_reducible first | exact HK.out | apply KeepBut.set_ | apply keep_drewN | apply keep_drew | apply keep_alloc | refine keep_far ?_ GW278.out _ | refine keep_far ?_ GW279.out _) | exact HK.out)) (KeepBut.of_below hb g none) (.inl rfl))
        have n6_ := Aside0.mk (below_step (by repeat (first | (with_reducible first | exact HB.out | apply below_alloc | apply pw_below_drewN | apply below_drew1 | refine below_set ?_ (IsS150.ge HI0.out) | refine below_set ?_ GE278.out | refine below_set ?_ GE279.out) | exact HB.out)) hb)
        have n7_ := Aside0.mk (hbox)
        have n8_ := Aside0.mk ((by rw [hg]; exact (keep_size (w := w) (g := g) (row := none) (by repeat (first | (with_reducible first | exact HK.out | apply KeepBut.set_ | apply keep_drewN | apply keep_drew | apply keep_alloc | refine keep_far ?_ GW278.out _ | refine keep_far ?_ GW279.out _) | exact HK.out))) : w.heap.size ≤ gb291))
        have n9_ := Aside0.mk ((Nat.le_trans HW0.out (by rw [hg]; exact (keep_size (w := w) (g := g) (row := none) (by repeat (first | (with_reducible first | exact HK.out | apply KeepBut.set_ | apply keep_drewN | apply keep_drew | apply keep_alloc | refine keep_far ?_ GW278.out _ | refine keep_far ?_ GW279.out _) | exact HK.out))) : w.heap.size ≤ gb291) : w0.heap.size ≤ gb291))
        have n10_ := nl_ BK278 hg; have n11_ := ng_ BK278 hg; have n12_ := nl_ BK279 hg; have n13_ := ng_ BK279 hg
        have n14_ := Aside0.mk ((by rw [hg]; exact Nat.ne_of_lt (IsS150.lt (show IsS150 w0 _ g s0_0 t285 t286 from by repeat (first | (with_reducible first | exact HI0.out | apply IsS150.alloc | apply IsS150.drewN | apply IsS150.drew | apply IsS150.set_1 | apply IsS150.set_2 | refine IsS150.far ?_ NB0_278.out _ | refine IsS150.far ?_ NB0_279.out _) | exact HI0.out))) : g ≠ gb291))
        have n15_ := Aside0.mk ((by rw [hg]; exact Nat.ne_of_gt (IsS150.lt (show IsS150 w0 _ g s0_0 t285 t286 from by repeat (first | (with_reducible first | exact HI0.out | apply IsS150.alloc | apply IsS150.drewN | apply IsS150.drew | apply IsS150.set_1 | apply IsS150.set_2 | refine IsS150.far ?_ NB0_278.out _ | refine IsS150.far ?_ NB0_279.out _) | exact HI0.out))) : gb291 ≠ g))
        clear HO_280000 HO289 BK278 BK279 HI0 HK HB; have HO_280000 := n0_; have HO289 := n1_; have BK278 := n2_; have BK279 := n3_
        have HI0 := n4_
        have HK := n5_
        have HB := n6_; have BK291 := n7_; have GW291 := n8_; have GE291 := n9_; have NB278_291 := n10_; have NB291_278 := n11_; have NB279_291 := n12_; have NB291_279 := n13_; have NB0_291 := n14_; have NB291_0 := n15_; clear n0_ n1_ n2_ n3_ n4_ n5_ n6_ n7_ n8_ n9_ n10_ n11_ n12_ n13_ n14_ n15_ hb hbox hg
        refine hK.out _ _ ((blk_cell BK279.out 0).trans rfl) (fun hHeld => ?_)
        clear hK K
        refine norm_ (a' := ?_) ?_ ?_
        rotate_left
        ·show Act.put _ (some 5) _ = _
         simp only [Act.put, ls0_, ls1_, ls2_, i64_w, i32_w]
         rfl
        exact norm_ (by simp only [putAll, Act.put, ls0_, ls1_, ls2_]) (hCont (v288, gb291) _ ⟨hHeld, (by (with_reducible repeat (first | apply Kd.R_alloc | apply Kd.R_drewN | apply Kd.R_drew)); exact Kd.R_mono HO289.out (fun _ hk => by first | exact hk.2 | grind)), (by (with_reducible repeat (first | apply Kd.R_alloc | apply Kd.R_drewN | apply Kd.R_drew)); exact Kd.R_mono HO_280000.out (fun _ hk => by first | exact hk.2 | grind)), (bk_ BK278), (bk_ BK279), (bk_ BK291), GW291.out, GE291.out, NB0_291.out, NB291_0.out, NB278_291.out, NB291_278.out, NB279_291.out, NB291_279.out, (by repeat (first | (with_reducible first | exact HI0.out | apply IsS150.alloc | apply IsS150.drewN | apply IsS150.drew | apply IsS150.set_1 | apply IsS150.set_2 | refine IsS150.far ?_ NB0_278.out _ | refine IsS150.far ?_ NB0_279.out _ | refine IsS150.far ?_ NB0_291.out _) | exact HI0.out)), (by repeat (first | (with_reducible first | exact HK.out | apply KeepBut.set_ | apply keep_drewN | apply keep_drew | apply keep_alloc | refine keep_far ?_ GW278.out _ | refine keep_far ?_ GW279.out _ | refine keep_far ?_ GW291.out _) | exact HK.out)), (by repeat (first | (with_reducible first | exact HB.out | apply below_alloc | apply pw_below_drewN | apply below_drew1 | refine below_set ?_ (IsS150.ge HI0.out) | refine below_set ?_ GE278.out | refine below_set ?_ GE279.out | refine below_set ?_ GE291.out) | exact HB.out))⟩)
       ·skip
        refine box_step ?hg (N := 5) ?hd (cs := #[.slice none 0 0]) (t := 29) ?hr ?_; (case hd => rfl); (case hg => rfl); (case hr => first | (go_simp; done) | (go_simp; rfl))
        intro gb291 hg w31 hbox hb
        have n0_ := Aside0.mk (Kd.R_below (kr_ HO_280000) hb); have n1_ := bb_ BK278 hb; have n2_ := bb_ BK279 hb
        have n3_ := Aside0.mk (IsS150.below (by repeat (first | (with_reducible first | exact HI0.out | apply IsS150.alloc | apply IsS150.drewN | apply IsS150.drew | apply IsS150.set_1 | apply IsS150.set_2 | refine IsS150.far ?_ NB0_278.out _ | refine IsS150.far ?_ NB0_279.out _) | exact HI0.out)) hb)
        have n4_ := Aside0.mk (KeepBut.trans (by repeat (first | (with_reducible first | exact HK.out | apply KeepBut.set_ | apply keep_drewN | apply keep_drew | apply keep_alloc | refine keep_far ?_ GW278.out _ | refine keep_far ?_ GW279.out _) | exact HK.out)) (KeepBut.of_below hb g none) (.inl rfl))
        have n5_ := Aside0.mk (below_step (by repeat (first | (with_reducible first | exact HB.out | apply below_alloc | apply pw_below_drewN | apply below_drew1 | refine below_set ?_ (IsS150.ge HI0.out) | refine below_set ?_ GE278.out | refine below_set ?_ GE279.out) | exact HB.out)) hb)
        have n6_ := Aside0.mk (hbox)
        have n7_ := Aside0.mk ((by rw [hg]; exact (keep_size (w := w) (g := g) (row := none) (by repeat (first | (with_reducible first | exact HK.out | apply KeepBut.set_ | apply keep_drewN | apply keep_drew | apply keep_alloc | refine keep_far ?_ GW278.out _ | refine keep_far ?_ GW279.out _) | exact HK.out))) : w.heap.size ≤ gb291))
        have n8_ := Aside0.mk ((Nat.le_trans HW0.out (by rw [hg]; exact (keep_size (w := w) (g := g) (row := none) (by repeat (first | (with_reducible first | exact HK.out | apply KeepBut.set_ | apply keep_drewN | apply keep_drew | apply keep_alloc | refine keep_far ?_ GW278.out _ | refine keep_far ?_ GW279.out _) | exact HK.out))) : w.heap.size ≤ gb291) : w0.heap.size ≤ gb291))
        have n9_ := nl_ BK278 hg; have n10_ := ng_ BK278 hg; have n11_ := nl_ BK279 hg; have n12_ := ng_ BK279 hg
        have n13_ := Aside0.mk ((by rw [hg]; exact Nat.ne_of_lt (IsS150.lt (show IsS150 w0 _ g s0_0 t285 t286 from by repeat (first | (with_reducible first | exact HI0.out | apply IsS150.alloc | apply IsS150.drewN | apply IsS150.drew | apply IsS150.set_1 | apply IsS150.set_2 | refine IsS150.far ?_ NB0_278.out _ | refine IsS150.far ?_ NB0_279.out _) | exact HI0.out))) : g ≠ gb291))
        have n14_ := Aside0.mk ((by rw [hg]; exact Nat.ne_of_gt (IsS150.lt (show IsS150 w0 _ g s0_0 t285 t286 from by repeat (first | (with_reducible first | exact HI0.out | apply IsS150.alloc | apply IsS150.drewN | apply IsS150.drew | apply IsS150.set_1 | apply IsS150.set_2 | refine IsS150.far ?_ NB0_278.out _ | refine IsS150.far ?_ NB0_279.out _) | exact HI0.out))) : gb291 ≠ g))
        clear HO_280000 BK278 BK279 HI0 HK HB; have HO_280000 := n0_; have BK278 := n1_; have BK279 := n2_
        have HI0 := n3_
        have HK := n4_
        have HB := n5_; have BK291 := n6_; have GW291 := n7_; have GE291 := n8_; have NB278_291 := n9_; have NB291_278 := n10_; have NB279_291 := n11_; have NB291_279 := n12_; have NB0_291 := n13_; have NB291_0 := n14_; clear n0_ n1_ n2_ n3_ n4_ n5_ n6_ n7_ n8_ n9_ n10_ n11_ n12_ n13_ n14_ hb hbox hg
        refine hK.out _ _ ((blk_cell BK279.out 0).trans rfl) (fun hHeld => ?_)
        clear hK K
        refine norm_ (a' := ?_) ?_ ?_
        rotate_left
        ·show Act.put _ (some 5) _ = _
         simp only [Act.put, ls0_, ls1_, ls2_, i64_w, i32_w]
         rfl
        refine on_ 3 (some 18) (bm 10 143) HT_ (fun K hK => ?_)
        refine gs_ Try.func155 #[.agg #[.slice Ao28 x280000_1.length co28], .agg #[.int .i64 t283, .int .i64 t284]] ?_
        with_reducible refine (spec_HeapPush.calls k1 _ _ x280000_1 t283 t284 t287 t290 _ ?side1 ?side2 A11.out).mono ?_
        (case side1 => exact cr_ HO_280000)
        (case side2 => exact (Kd.R_reads' HO_280000.out).2.1)
        rintro e w32 ⟨v288, rfl, ho0, hb⟩
        refine ⟨_, rfl, ?_⟩
        have n0_ := Aside0.mk (Kd.R_elder' (kr_ HO_280000) (Kd.R_base ho0) hb)
        have n1_ := Aside0.mk (Kd.R_lower (Kd.R_new' ho0 (Kd.R_lt (kr_ HO_280000))) (keep_size (w := w) (g := g) (row := none) (by repeat (first | (with_reducible first | exact HK.out | apply KeepBut.set_ | apply keep_drewN | apply keep_drew | apply keep_alloc | refine keep_far ?_ GW278.out _ | refine keep_far ?_ GW279.out _ | refine keep_far ?_ GW291.out _) | exact HK.out))))
        have n2_ := bb_ BK278 hb; have n3_ := bb_ BK279 hb
        have n4_ := Aside0.mk (IsS150.below (by repeat (first | (with_reducible first | exact HI0.out | apply IsS150.alloc | apply IsS150.drewN | apply IsS150.drew | apply IsS150.set_1 | apply IsS150.set_2 | refine IsS150.far ?_ NB0_278.out _ | refine IsS150.far ?_ NB0_279.out _ | refine IsS150.far ?_ NB0_291.out _) | exact HI0.out)) hb)
        have n5_ := bb_ BK291 hb
        have n6_ := Aside0.mk (KeepBut.trans (by repeat (first | (with_reducible first | exact HK.out | apply KeepBut.set_ | apply keep_drewN | apply keep_drew | apply keep_alloc | refine keep_far ?_ GW278.out _ | refine keep_far ?_ GW279.out _ | refine keep_far ?_ GW291.out _) | exact HK.out)) (KeepBut.of_below hb g none) (.inl rfl))
        have n7_ := Aside0.mk (below_step (by repeat (first | (with_reducible first | exact HB.out | apply below_alloc | apply pw_below_drewN | apply below_drew1 | refine below_set ?_ (IsS150.ge HI0.out) | refine below_set ?_ GE278.out | refine below_set ?_ GE279.out | refine below_set ?_ GE291.out) | exact HB.out)) hb)
        clear HO_280000 BK278 BK279 HI0 BK291 HK HB; have HO_280000 := n0_; have HO289 := n1_; have BK278 := n2_; have BK279 := n3_
        have HI0 := n4_
        have BK291 := n5_
        have HK := n6_
        have HB := n7_; clear n0_ n1_ n2_ n3_ n4_ n5_ n6_ n7_; (try clear hb); (try clear hb2); (try clear hk); (try clear hi); (try clear ho0)
        refine hK.out _ _ ((blk_cell BK279.out 0).trans rfl) (fun hHeld => ?_)
        clear hK K
        refine norm_ (a' := ?_) ?_ ?_
        rotate_left
        ·show Act.put _ (some 18) _ = _
         simp only [Act.put, ls0_, ls1_, ls2_, i64_w, i32_w]
         rfl
        refine ps_ 4 14 (bm 10 159) HT_ ?_
        refine ps_ 5 19 (bm 10 191) HT_ ?_
        refine ps_ 6 20 (bs 10 8) HT_ ?_
        exact norm_ (by simp only [putAll, Act.put, ls0_, ls1_, ls2_]) (hCont (v288, gb291) _ ⟨hHeld, (by (with_reducible repeat (first | apply Kd.R_alloc | apply Kd.R_drewN | apply Kd.R_drew)); exact Kd.R_mono HO289.out (fun _ hk => by first | exact hk.2 | grind)), (by (with_reducible repeat (first | apply Kd.R_alloc | apply Kd.R_drewN | apply Kd.R_drew)); exact Kd.R_mono HO_280000.out (fun _ hk => by first | exact hk.2 | grind)), (bk_ BK278), (bk_ BK279), (bk_ BK291), GW291.out, GE291.out, NB0_291.out, NB291_0.out, NB278_291.out, NB291_278.out, NB279_291.out, NB291_279.out, (by repeat (first | (with_reducible first | exact HI0.out | apply IsS150.alloc | apply IsS150.drewN | apply IsS150.drew | apply IsS150.set_1 | apply IsS150.set_2 | refine IsS150.far ?_ NB0_278.out _ | refine IsS150.far ?_ NB0_279.out _ | refine IsS150.far ?_ NB0_291.out _) | exact HI0.out)), (by repeat (first | (with_reducible first | exact HK.out | apply KeepBut.set_ | apply keep_drewN | apply keep_drew | apply keep_alloc | refine keep_far ?_ GW278.out _ | refine keep_far ?_ GW279.out _ | refine keep_far ?_ GW291.out _) | exact HK.out)), (by repeat (first | (with_reducible first | exact HB.out | apply below_alloc | apply pw_below_drewN | apply below_drew1 | refine below_set ?_ (IsS150.ge HI0.out) | refine below_set ?_ GE278.out | refine below_set ?_ GE279.out | refine below_set ?_ GE291.out) | exact HB.out))⟩)
      ·skip
       refine box_step ?hg (N := 5) ?hd (cs := #[.slice none 0 0]) (t := 29) ?hr ?_; (case hd => rfl); (case hg => rfl); (case hr => first | (go_simp; done) | (go_simp; rfl))
       intro gb291 hg w30 hbox hb
       have n0_ := Aside0.mk (Kd.R_below (kr_ HO_280000) hb); have n1_ := bb_ BK278 hb; have n2_ := bb_ BK279 hb
       have n3_ := Aside0.mk (IsS150.below (by repeat (first | (with_reducible first | exact HI0.out | apply IsS150.alloc | apply IsS150.drewN | apply IsS150.drew | apply IsS150.set_1 | apply IsS150.set_2 | refine IsS150.far ?_ NB0_278.out _ | refine IsS150.far ?_ NB0_279.out _) | exact HI0.out)) hb)
       have n4_ := Aside0.mk (KeepBut.trans (by repeat (first | (with_reducible first | exact HK.out | apply KeepBut.set_ | apply keep_drewN | apply keep_drew | apply keep_alloc | refine keep_far ?_ GW278.out _ | refine keep_far ?_ GW279.out _) | exact HK.out)) (KeepBut.of_below hb g none) (.inl rfl))
       have n5_ := Aside0.mk (below_step (by repeat (first | (with_reducible first | exact HB.out | apply below_alloc | apply pw_below_drewN | apply below_drew1 | refine below_set ?_ (IsS150.ge HI0.out) | refine below_set ?_ GE278.out | refine below_set ?_ GE279.out) | exact HB.out)) hb)
       have n6_ := Aside0.mk (hbox)
       have n7_ := Aside0.mk ((by rw [hg]; exact (keep_size (w := w) (g := g) (row := none) (by repeat (first | (with_reducible first | exact HK.out | apply KeepBut.set_ | apply keep_drewN | apply keep_drew | apply keep_alloc | refine keep_far ?_ GW278.out _ | refine keep_far ?_ GW279.out _) | exact HK.out))) : w.heap.size ≤ gb291))
       have n8_ := Aside0.mk ((Nat.le_trans HW0.out (by rw [hg]; exact (keep_size (w := w) (g := g) (row := none) (by repeat (first | (with_reducible first | exact HK.out | apply KeepBut.set_ | apply keep_drewN | apply keep_drew | apply keep_alloc | refine keep_far ?_ GW278.out _ | refine keep_far ?_ GW279.out _) | exact HK.out))) : w.heap.size ≤ gb291) : w0.heap.size ≤ gb291))
       have n9_ := nl_ BK278 hg; have n10_ := ng_ BK278 hg; have n11_ := nl_ BK279 hg; have n12_ := ng_ BK279 hg
       have n13_ := Aside0.mk ((by rw [hg]; exact Nat.ne_of_lt (IsS150.lt (show IsS150 w0 _ g s0_0 x1001_1 x1002_1 from by repeat (first | (with_reducible first | exact HI0.out | apply IsS150.alloc | apply IsS150.drewN | apply IsS150.drew | apply IsS150.set_1 | apply IsS150.set_2 | refine IsS150.far ?_ NB0_278.out _ | refine IsS150.far ?_ NB0_279.out _) | exact HI0.out))) : g ≠ gb291))
       have n14_ := Aside0.mk ((by rw [hg]; exact Nat.ne_of_gt (IsS150.lt (show IsS150 w0 _ g s0_0 x1001_1 x1002_1 from by repeat (first | (with_reducible first | exact HI0.out | apply IsS150.alloc | apply IsS150.drewN | apply IsS150.drew | apply IsS150.set_1 | apply IsS150.set_2 | refine IsS150.far ?_ NB0_278.out _ | refine IsS150.far ?_ NB0_279.out _) | exact HI0.out))) : gb291 ≠ g))
       clear HO_280000 BK278 BK279 HI0 HK HB; have HO_280000 := n0_; have BK278 := n1_; have BK279 := n2_
       have HI0 := n3_
       have HK := n4_
       have HB := n5_; have BK291 := n6_; have GW291 := n7_; have GE291 := n8_; have NB278_291 := n9_; have NB291_278 := n10_; have NB279_291 := n11_; have NB291_279 := n12_; have NB0_291 := n13_; have NB291_0 := n14_; clear n0_ n1_ n2_ n3_ n4_ n5_ n6_ n7_ n8_ n9_ n10_ n11_ n12_ n13_ n14_ hb hbox hg
       refine hK.out _ _ ((blk_cell BK279.out 0).trans rfl) (fun hHeld => ?_)
       clear hK K
       refine norm_ (a' := ?_) ?_ ?_
       rotate_left
       ·show Act.put _ (some 5) _ = _
        simp only [Act.put, ls0_, ls1_, ls2_, i64_w, i32_w]
        rfl
       refine on_ 2 (some 17) (bm 10 135) HT_ (fun K hK => ?_)
       refine gs_ Try.func136 #[.pointer (some ⟨g, 0, none⟩)] ?_
       with_reducible refine (spec_l01Cur_item.calls g s0_0 x1001_1 x1002_1 t283 t284 t285 t286 w0 _ ?side1 ?side2 A10.out).mono ?_
       (case side1 => repeat (first | (with_reducible first | exact HI0.out | apply IsS150.alloc | apply IsS150.drewN | apply IsS150.drew | apply IsS150.set_1 | apply IsS150.set_2 | refine IsS150.far ?_ NB0_278.out _ | refine IsS150.far ?_ NB0_279.out _ | refine IsS150.far ?_ NB0_291.out _) | exact HI0.out))
       (case side2 => repeat (first | (with_reducible first | exact HB.out | apply below_alloc | apply pw_below_drewN | apply below_drew1 | refine below_set ?_ (IsS150.ge HI0.out) | refine below_set ?_ GE278.out | refine below_set ?_ GE279.out | refine below_set ?_ GE291.out) | exact HB.out))
       rintro e w31 ⟨rfl, hi, hb, hk⟩
       refine ⟨_, rfl, ?_⟩
       have n0_ := Aside0.mk (Kd.R_mono (Kd.R_keep (IsS150.apart (show IsS150 w0 _ g s0_0 x1001_1 x1002_1 from by repeat (first | (with_reducible first | exact HI0.out | apply IsS150.alloc | apply IsS150.drewN | apply IsS150.drew | apply IsS150.set_1 | apply IsS150.set_2 | refine IsS150.far ?_ NB0_278.out _ | refine IsS150.far ?_ NB0_279.out _ | refine IsS150.far ?_ NB0_291.out _) | exact HI0.out)) (kr_ HO_280000) (by decide)) hk (fun _ h => h.2)) (fun _ h => h.1))
       have n1_ := Aside0.mk (KeepBut.blk hk (g' := gb278) (o := .cells #[.slice none 0 0] 29 (0, 0)) (bk_ BK278) NB278_0.out (by simp))
       have n2_ := Aside0.mk (KeepBut.blk hk (g' := gb279) (o := .cells #[.slice Ao28 x280000_1.length co28] 29 (0, 0)) (bk_ BK279) NB279_0.out (by simp))
       have n3_ := Aside0.mk (KeepBut.blk hk (g' := gb291) (o := .cells #[.slice none 0 0] 29 (0, 0)) (bk_ BK291) NB291_0.out (by simp))
       have n4_ := Aside0.mk (KeepBut.trans (by repeat (first | (with_reducible first | exact HK.out | apply KeepBut.set_ | apply keep_drewN | apply keep_drew | apply keep_alloc | refine keep_far ?_ GW278.out _ | refine keep_far ?_ GW279.out _ | refine keep_far ?_ GW291.out _) | exact HK.out)) hk (.inl rfl))
       have n5_ := Aside0.mk (hb); have n6_ := Aside0.mk (hi); clear HO_280000 BK278 BK279 BK291 HK HB HI0; have HO_280000 := n0_; have BK278 := n1_; have BK279 := n2_; have BK291 := n3_
       have HK := n4_
       have HB := n5_
       have HI0 := n6_
       clear n0_ n1_ n2_ n3_ n4_ n5_ n6_; (try clear hb); (try clear hb2); (try clear hk); (try clear hi)
       refine hK.out _ _ ((blk_cell BK279.out 0).trans rfl) (fun hHeld => ?_)
       clear hK K
       refine norm_ (a' := ?_) ?_ ?_
       rotate_left
       ·show Act.put _ (some 17) _ = _
        simp only [Act.put, ls0_, ls1_, ls2_, i64_w, i32_w]
        rfl
       refine on_ 3 (some 18) (bm 10 143) HT_ (fun K hK => ?_)
       refine gs_ Try.func155 #[.agg #[.slice Ao28 x280000_1.length co28], .agg #[.int .i64 t283, .int .i64 t284]] ?_
       with_reducible refine (spec_HeapPush.calls k1 _ _ x280000_1 t283 t284 t287 t290 _ ?side1 ?side2 A11.out).mono ?_
       (case side1 => exact cr_ HO_280000)
       (case side2 => exact (Kd.R_reads' HO_280000.out).2.1)
       rintro e w32 ⟨v288, rfl, ho0, hb⟩
       refine ⟨_, rfl, ?_⟩
       have n0_ := Aside0.mk (Kd.R_elder' (kr_ HO_280000) (Kd.R_base ho0) hb)
       have n1_ := Aside0.mk (Kd.R_lower (Kd.R_new' ho0 (Kd.R_lt (kr_ HO_280000))) (keep_size (w := w) (g := g) (row := none) (by repeat (first | (with_reducible first | exact HK.out | apply KeepBut.set_ | apply keep_drewN | apply keep_drew | apply keep_alloc | refine keep_far ?_ GW278.out _ | refine keep_far ?_ GW279.out _ | refine keep_far ?_ GW291.out _) | exact HK.out))))
       have n2_ := bb_ BK278 hb; have n3_ := bb_ BK279 hb
       have n4_ := Aside0.mk (IsS150.below (by repeat (first | (with_reducible first | exact HI0.out | apply IsS150.alloc | apply IsS150.drewN | apply IsS150.drew | apply IsS150.set_1 | apply IsS150.set_2 | refine IsS150.far ?_ NB0_278.out _ | refine IsS150.far ?_ NB0_279.out _ | refine IsS150.far ?_ NB0_291.out _) | exact HI0.out)) hb)
       have n5_ := bb_ BK291 hb
       have n6_ := Aside0.mk (KeepBut.trans (by repeat (first | (with_reducible first | exact HK.out | apply KeepBut.set_ | apply keep_drewN | apply keep_drew | apply keep_alloc | refine keep_far ?_ GW278.out _ | refine keep_far ?_ GW279.out _ | refine keep_far ?_ GW291.out _) | exact HK.out)) (KeepBut.of_below hb g none) (.inl rfl))
       have n7_ := Aside0.mk (below_step (by repeat (first | (with_reducible first | exact HB.out | apply below_alloc | apply pw_below_drewN | apply below_drew1 | refine below_set ?_ (IsS150.ge HI0.out) | refine below_set ?_ GE278.out | refine below_set ?_ GE279.out | refine below_set ?_ GE291.out) | exact HB.out)) hb)
       clear HO_280000 BK278 BK279 HI0 BK291 HK HB; have HO_280000 := n0_; have HO289 := n1_; have BK278 := n2_; have BK279 := n3_
       have HI0 := n4_
       have BK291 := n5_
       have HK := n6_
       have HB := n7_; clear n0_ n1_ n2_ n3_ n4_ n5_ n6_ n7_; (try clear hb); (try clear hb2); (try clear hk); (try clear hi); (try clear ho0)
       refine hK.out _ _ ((blk_cell BK279.out 0).trans rfl) (fun hHeld => ?_)
       clear hK K
       refine norm_ (a' := ?_) ?_ ?_
       rotate_left
       ·show Act.put _ (some 18) _ = _
        simp only [Act.put, ls0_, ls1_, ls2_, i64_w, i32_w]
        rfl
       refine ps_ 4 14 (bm 10 159) HT_ ?_
       refine ps_ 5 19 (bm 10 191) HT_ ?_
       refine ps_ 6 20 (bs 10 8) HT_ ?_
       exact norm_ (by simp only [putAll, Act.put, ls0_, ls1_, ls2_]) (hCont (v288, gb291) _ ⟨hHeld, (by (with_reducible repeat (first | apply Kd.R_alloc | apply Kd.R_drewN | apply Kd.R_drew)); exact Kd.R_mono HO289.out (fun _ hk => by first | exact hk.2 | grind)), (by (with_reducible repeat (first | apply Kd.R_alloc | apply Kd.R_drewN | apply Kd.R_drew)); exact Kd.R_mono HO_280000.out (fun _ hk => by first | exact hk.2 | grind)), (bk_ BK278), (bk_ BK279), (bk_ BK291), GW291.out, GE291.out, NB0_291.out, NB291_0.out, NB278_291.out, NB291_278.out, NB279_291.out, NB291_279.out, (by repeat (first | (with_reducible first | exact HI0.out | apply IsS150.alloc | apply IsS150.drewN | apply IsS150.drew | apply IsS150.set_1 | apply IsS150.set_2 | refine IsS150.far ?_ NB0_278.out _ | refine IsS150.far ?_ NB0_279.out _ | refine IsS150.far ?_ NB0_291.out _) | exact HI0.out)), (by repeat (first | (with_reducible first | exact HK.out | apply KeepBut.set_ | apply keep_drewN | apply keep_drew | apply keep_alloc | refine keep_far ?_ GW278.out _ | refine keep_far ?_ GW279.out _ | refine keep_far ?_ GW291.out _) | exact HK.out)), (by repeat (first | (with_reducible first | exact HB.out | apply below_alloc | apply pw_below_drewN | apply below_drew1 | refine below_set ?_ (IsS150.ge HI0.out) | refine below_set ?_ GE278.out | refine below_set ?_ GE279.out | refine below_set ?_ GE291.out) | exact HB.out))⟩)
     rintro ⟨v288, gb291⟩ w33 ⟨hS_, h0_, h1_, h2_, h3_, h4_, h5_, h6_, h7_, h8_, h9_, h10_, h11_, h12_, h13_, h14_, h15_⟩
     have n0_ : Aside0 (Kd.R k68 68 w33 w.heap.size (fun k_ => some k_ ≠ (.slice Ao28 x280000_1.length co28 : Value).ownBlock) v288 t287) := ⟨h0_⟩
     have n1_ : Aside0 (Kd.R k68 68 w33 w.heap.size (fun k_ => some k_ ≠ (v288 : Value).ownBlock) (.slice Ao28 x280000_1.length co28) x280000_1) := ⟨h1_⟩
     have n2_ : Aside0 (w33.heap[gb278]? = some (.cells #[.slice none 0 0] 29 (0, 0))) := ⟨h2_⟩
     have n3_ : Aside0 (w33.heap[gb279]? = some (.cells #[.slice Ao28 x280000_1.length co28] 29 (0, 0))) := ⟨h3_⟩
     have n4_ : Aside0 (w33.heap[gb291]? = some (.cells #[.slice none 0 0] 29 (0, 0))) := ⟨h4_⟩
     have n5_ : Aside0 (w.heap.size ≤ gb291) := ⟨h5_⟩
     have n6_ : Aside0 (w0.heap.size ≤ gb291) := ⟨h6_⟩
     have n7_ : Aside0 (g ≠ gb291) := ⟨h7_⟩
     have n8_ : Aside0 (gb291 ≠ g) := ⟨h8_⟩
     have n9_ : Aside0 (gb278 ≠ gb291) := ⟨h9_⟩
     have n10_ : Aside0 (gb291 ≠ gb278) := ⟨h10_⟩
     have n11_ : Aside0 (gb279 ≠ gb291) := ⟨h11_⟩
     have n12_ : Aside0 (gb291 ≠ gb279) := ⟨h12_⟩
     have n13_ : Aside0 (IsS150 w0 w33 g s0_0 t285 t286) := ⟨h13_⟩
     have n14_ : Aside0 (KeepBut w w33 g none) := ⟨h14_⟩
     have n15_ : Aside0 (Below w0.heap.size w0 w33) := ⟨h15_⟩
     clear HO_280000 BK278 BK279 HI0 HK HB h0_ h1_ h2_ h3_ h4_ h5_ h6_ h7_ h8_ h9_ h10_ h11_ h12_ h13_ h14_ h15_; have HO289 := n0_; have HO_280000 := n1_; have BK278 := n2_; have BK279 := n3_; have BK291 := n4_; have GW291 := n5_; have GE291 := n6_; have NB0_291 := n7_; have NB291_0 := n8_; have NB278_291 := n9_; have NB291_278 := n10_; have NB279_291 := n11_; have NB291_279 := n12_
     have HI0 := n13_
     have HK := n14_
     have HB := n15_; clear n0_ n1_ n2_ n3_ n4_ n5_ n6_ n7_ n8_ n9_ n10_ n11_ n12_ n13_ n14_ n15_
     have hHeld : w33.cell? ⟨gb279, 0, none⟩ = some (.slice Ao28 x280000_1.length co28) := hS_
     obtain ⟨Ao34, co34, eo34⟩ := Kd.R_slice HO289.out
     (first | subst eo34 | (injection eo34 with f1_ f2_ f3_; have f4_ := f1_.symm; have f5_ := f3_.symm; clear f1_ f2_ f3_; subst f4_; subst f5_))
     refine norm_ (a' := ?_) ?_ ?_
     rotate_left
     ·simp only [putAll, Act.put, ls0_, ls1_, ls2_]
      rfl
     refine on_ 8 none (bs 10 9) HT_ (fun K hK => ?_)
     have hs35 := bc_ BK291 0 (.slice none 0 0) rfl; have hfs35 := blk_frozen BK291.out 0; have hns35_0 := NB278_291.out; have hns35_1 := NB279_291.out; have hms35_0 := NB291_278.out; have hms35_1 := NB291_279.out
     refine skip_ (w1 := ?_) (by rfl) rfl ?_ ?_
     rotate_left
     ·go_simp
      rfl
     refine hK.out _ _ (cf1_ NB279_291.out hHeld) (fun hHeld => ?_)
     clear hK K
     refine psn_ HT_ ?_
     refine done_ (done_of HT_.out (by kernel_rfl)) ?_
     try go_wp2
     go_roundg k1
     case measure => have := HK1.out; omega
     case rel => exact ⟨(wrap64 (x4_1 - 1)), (t285), (t286), (x280000_1), (.slice Ao28 x280000_1.length co28), (by first | rfl | (simp; done) | (simp [*]; done)), H', ⟨by have := HK1.out; omega⟩, ⟨by (with_reducible repeat (first | apply Kd.R_alloc | apply Kd.R_drewN | apply Kd.R_drew)); exact Kd.R_mono (Kd.R_far (p := ⟨gb291, 0, none⟩) (Kd.R_types HO_280000.out BK291.out (by decide)) (fun _ hk => by first | exact hk.2 | grind) (.slice Ao34 t287.length co34)) (fun _ hk => by first | exact trivial | grind)⟩, ⟨by (with_reducible repeat (first | refine blk_drewN ?_ _ | refine blk_drew ?_ | refine blk_alloc ?_ _)); refine blk_far ?_ NB278_291.out _; exact bk_ BK278⟩, ⟨by (with_reducible repeat (first | refine blk_drewN ?_ _ | refine blk_drew ?_ | refine blk_alloc ?_ _)); refine blk_far ?_ NB279_291.out _; exact bk_ BK279⟩, ⟨by repeat (first | (with_reducible first | exact HI0.out | apply IsS150.alloc | apply IsS150.drewN | apply IsS150.drew | apply IsS150.set_1 | apply IsS150.set_2 | refine IsS150.far ?_ NB0_278.out _ | refine IsS150.far ?_ NB0_279.out _ | refine IsS150.far ?_ NB0_291.out _) | exact HI0.out)⟩, ⟨by repeat (first | (with_reducible first | exact HK.out | apply KeepBut.set_ | apply keep_drewN | apply keep_drew | apply keep_alloc | refine keep_far ?_ GW278.out _ | refine keep_far ?_ GW279.out _ | refine keep_far ?_ GW291.out _) | exact HK.out)⟩, ⟨by repeat (first | (with_reducible first | exact HB.out | apply below_alloc | apply pw_below_drewN | apply below_drew1 | refine below_set ?_ (IsS150.ge HI0.out) | refine below_set ?_ GE278.out | refine below_set ?_ GE279.out | refine below_set ?_ GE291.out) | exact HB.out)⟩⟩
   ·rw [if_neg c9] at H
    have c9b0 : decide (0 < x4_1) = false := decide_eq_false c9
    clear c9
    simp only [Option.some.injEq, Prod.mk.injEq] at H
    obtain ⟨rfl, rfl, rfl⟩ := H
    have hnb36 := NB279_278.out; have hnc36 := NB278_279.out; have hnb37 := NB279_0.out; have hnc37 := NB0_279.out; obtain ⟨hcz38_0, hfz38_0⟩ := bz1_ BK279
    obtain ⟨Ao39, co39, eo39⟩ := Kd.R_slice HO_280000.out
    subst eo39
    have hnb40 := NB278_0.out; have hnc40 := NB0_278.out; obtain ⟨hcz41_0, hfz41_0⟩ := bz1_ BK278
    go_wp2
    refine bodyPost_ret (results_cell_row rfl _ _ gb278 29 #[.slice Ao39 x280000_1.length co39] (0, 0) _ rfl (by (with_reducible repeat (first | refine blk_drewN ?_ _ | refine blk_drew ?_ | refine blk_alloc ?_ _)); refine blk_put (cs := #[.slice none 0 0]) ?_ 0 _ rfl; exact bk_ BK278) Try.underlying29 rfl (by kernel_rfl)) rfl ?_
    exact ⟨_, by first | rfl | (simp [errW_none, errW_some] <;> rfl) | (simp [*, errW_none, errW_some] <;> rfl), by (with_reducible repeat (first | apply Kd.R_alloc | apply Kd.R_drewN | apply Kd.R_drew)); exact Kd.R_mono (Kd.R_far (p := ⟨gb278, 0, none⟩) (Kd.R_types HO_280000.out BK278.out (by decide)) (fun _ hk => by first | exact hk.2 | grind) (.slice Ao39 x280000_1.length co39)) (fun _ hk => by first | exact trivial | grind), by repeat (first | (with_reducible first | exact HI0.out | apply IsS150.alloc | apply IsS150.drewN | apply IsS150.drew | apply IsS150.set_1 | apply IsS150.set_2 | refine IsS150.far ?_ NB0_278.out _ | refine IsS150.far ?_ NB0_279.out _) | exact HI0.out), by repeat (first | (with_reducible first | exact HB.out | apply below_alloc | apply pw_below_drewN | apply below_drew1 | refine below_set ?_ (IsS150.ge HI0.out) | refine below_set ?_ GE278.out | refine below_set ?_ GE279.out) | exact HB.out), by repeat (first | (with_reducible first | exact HK.out | apply KeepBut.set_ | apply keep_drewN | apply keep_drew | apply keep_alloc | refine keep_far ?_ GW278.out _ | refine keep_far ?_ GW279.out _) | exact HK.out)⟩

end Go.Proofs.Ytnklakficjpmoaa.PFnHeapBook
