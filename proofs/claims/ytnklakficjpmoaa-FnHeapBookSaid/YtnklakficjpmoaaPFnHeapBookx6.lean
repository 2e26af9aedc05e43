-- printed by a program of this session (wip/printx) out of the translation; Lean checks it
import Derived.Test.YtnklakficjpmoaaVFnHeapBook
import Derived.Test.YtnklakficjpmoaaPFnHeapBookx0
import Derived.Test.YtnklakficjpmoaaPFnHeapBookx2
import Derived.Test.YtnklakficjpmoaaPFnHeapBookx3
import Derived.Test.YtnklakficjpmoaaPFnHeapBookx4
import Derived.Test.YtnklakficjpmoaaPFnHeapBookx5
namespace Go.Proofs.Ytnklakficjpmoaa.PFnHeapBook
open Go.RowKit Go.Proofs.YtnklakficjpmoaaW.PrintWords Go.Proofs.YtnklakficjpmoaaW.PrintLast Go.Proofs.YtnklakficjpmoaaW.PrintMore
attribute [local go_sem] max2_int min2_int max_two min_two max_three min_three max_four min_four   -- for this text's walks alone
set_option linter.unusedVariables false
set_option linter.unusedSimpArgs false

/-! ### impl_Heap_remove: function 97 -/
def impl_Heap_remove.f (k : Nat) (l0_0 : List (S68)) (a1 : Int) : Option ((List (S68))) := if 0 ≤ (wrap64 ((l0_0.length : Int) - 1)) then (if (wrap64 ((l0_0.length : Int) - 1)) < (l0_0.length : Int) then (if (wrap64 ((l0_0.length : Int) - 1)) ≤ (l0_0.length : Int) then ((some (l0_0.take ((wrap64 ((l0_0.length : Int) - 1)) : Int).toNat : List (S68))).bind fun y156 => (if a1 < (wrap64 ((l0_0.length : Int) - 1)) then (if 0 ≤ a1 then (if a1 < (y156.length : Int) then ((impl_Heap_up.f k (y156.set (a1 : Int).toNat (⟨(rd_T68 l0_0 (wrap64 ((l0_0.length : Int) - 1))).f0, (rd_T68 l0_0 (wrap64 ((l0_0.length : Int) - 1))).f1⟩ : S68)) a1).bind fun bt160 => ((impl_Heap_down.f k bt160.2 bt160.1).bind fun t162 => (some t162))) else (none)) else (none)) else (some y156))) else (none)) else (none)) else (none)
theorem impl_Heap_remove.mono : ∀ a0 a1 k, LeO (impl_Heap_remove.f k a0 a1) (impl_Heap_remove.f (k + 1) a0 a1) := by
 intro a0 a1 k
 unfold impl_Heap_remove.f
 repeat' (first | (with_reducible exact impl_Heap_down.mono _ _ _) | (with_reducible exact impl_Heap_up.mono _ _ _) | (with_reducible exact LeO.refl _) | (with_reducible exact LeO.none _) | (with_reducible refine LeO.ite ?_ ?_) | (with_reducible refine LeO.bind ?_ (fun _ => ?_)) | exact impl_Heap_down.mono _ _ _ | exact impl_Heap_up.mono _ _ _ | exact LeO.none _ | refine LeO.ite ?_ ?_ | refine LeO.bind ?_ (fun _ => ?_))
set_option maxHeartbeats 8000000 in
set_option maxRecDepth 100000 in
theorem impl_Heap_remove.calls (k : Nat) (P0_0_ : Nat → Prop) (u9000_ : Value) (l0_0 : List (S68)) (a1 : Int) (r : List (S68)) (w0 w : World) (hB : Below w0.heap.size w0 w) (ho0_0 : Kd.R k68 68 w w0.heap.size P0_0_ u9000_ l0_0) (h : impl_Heap_remove.f k l0_0 a1 = some r) :
  Calls Try.prog 97 #[.agg #[u9000_], .int .i64 a1] w fun e w' => ∃ v0_ : Value, e = .returned (.agg #[v0_]) ∧ Kd.R k68 68 w' w0.heap.size (fun k_ => (P0_0_ k_ ∨ w.heap.size ≤ k_)) v0_ r ∧ Below w0.heap.size w0 w' ∧ Kept w w' (fun k_ => P0_0_ k_) := by
 have hu29 := Try.underlying29; have hu68 := Try.underlying68
 have HO0_0 := Aside0.mk (show Kd.R k68 68 w w0.heap.size (fun k_ => (P0_0_ k_ ∨ w.heap.size ≤ k_)) u9000_ l0_0 from Kd.R_mono ho0_0 (fun k_ hk => by first | exact (.inl hk) | grind))
 have HK := Aside0.mk (Kept.refl w (fun k_ => P0_0_ k_))
 have HW0 := Aside0.mk hB.size
 have HB := Aside0.mk hB; clear hB
 have H := h
 clear h
 unfold impl_Heap_remove.f at H
 obtain ⟨ji3, hji3⟩ : ∃ j_ : Int, (wrap64 ((l0_0.length : Int) - 1)) = j_ := ⟨_, rfl⟩
 replace H : (if 0 ≤ (ji3) then (if (ji3) < (l0_0.length : Int) then (if (ji3) ≤ (l0_0.length : Int) then ((some (l0_0.take ((ji3) : Int).toNat : List (S68))).bind fun y156 => (if a1 < (ji3) then (if 0 ≤ a1 then (if a1 < (y156.length : Int) then ((impl_Heap_up.f k (y156.set (a1 : Int).toNat (⟨(rd_T68 l0_0 (ji3)).f0, (rd_T68 l0_0 (ji3)).f1⟩ : S68)) a1).bind fun bt160 => ((impl_Heap_down.f k bt160.2 bt160.1).bind fun t162 => (some t162))) else (none)) else (none)) else (some y156))) else (none)) else (none)) else (none)) = some r := by first | (rw [hji3] at H; exact H) | (simp only [hji3] at H ⊢; exact H)
 have hji3w : (IntKind.i64.wrap ((l0_0.length : Int) - 1)) = ji3 := (i64_w _).trans hji3
 by_cases c4 : 0 ≤ (ji3)
 ·rw [if_pos c4] at H
  have c4b0 : decide (0 ≤ (ji3)) = true := decide_eq_true c4
  clear c4
  by_cases c5 : (ji3) < (l0_0.length : Int)
  ·rw [if_pos c5] at H
   have c5b0 : decide ((ji3) < (l0_0.length : Int)) = true := decide_eq_true c5
   clear c5
   by_cases c6 : (ji3) ≤ (l0_0.length : Int)
   ·rw [if_pos c6] at H
    have c6b0 := eq_true c6
    have c6b1 : decide ((ji3) ≤ (l0_0.length : Int)) = true := decide_eq_true c6
    clear c6
    obtain ⟨y156, hy156⟩ : ∃ y_ : List (S68), y_ = (l0_0.take ((ji3) : Int).toNat) := ⟨_, rfl⟩
    replace H : (if a1 < (ji3) then (if 0 ≤ a1 then (if a1 < (y156.length : Int) then ((impl_Heap_up.f k (y156.set (a1 : Int).toNat (⟨(rd_T68 l0_0 (ji3)).f0, (rd_T68 l0_0 (ji3)).f1⟩ : S68)) a1).bind fun bt160 => ((impl_Heap_down.f k bt160.2 bt160.1).bind fun t162 => (some t162))) else (none)) else (none)) else (some y156)) = some r := by first | (rw [hy156]; with_reducible exact H) | (have H2_ := (Option.bind_some _ _).symm.trans H; rw [hy156]; with_reducible exact H2_) | (have H2_ := (Option.bind_some _ _).symm.trans H; with_reducible exact H2_) | with_reducible exact H | (rw [hy156]; exact H) | exact H
    have Ny156 := Aside0.mk hy156
    clear hy156
    by_cases c7 : a1 < (ji3)
    ·rw [if_pos c7] at H
     have c7b0 : decide (a1 < (ji3)) = true := decide_eq_true c7
     clear c7
     by_cases c8 : 0 ≤ a1
     ·rw [if_pos c8] at H
      have c8b0 : decide (0 ≤ a1) = true := decide_eq_true c8
      clear c8
      by_cases c9 : a1 < (y156.length : Int)
      ·rw [if_pos c9] at H
       have c9b0 : decide (a1 < (y156.length : Int)) = true := decide_eq_true c9
       clear c9
       obtain ⟨y159, hy159⟩ : ∃ y_ : List (S68), y_ = (y156.set (a1 : Int).toNat (⟨(rd_T68 l0_0 (ji3)).f0, (rd_T68 l0_0 (ji3)).f1⟩ : S68)) := ⟨_, rfl⟩
       replace H : ((impl_Heap_up.f k y159 a1).bind fun bt160 => ((impl_Heap_down.f k bt160.2 bt160.1).bind fun t162 => (some t162))) = some r := by first | (rw [hy159]; with_reducible exact H) | (have H2_ := (Option.bind_some _ _).symm.trans H; rw [hy159]; with_reducible exact H2_) | (have H2_ := (Option.bind_some _ _).symm.trans H; with_reducible exact H2_) | with_reducible exact H | (rw [hy159]; exact H) | exact H
       have Ny159 := Aside0.mk hy159
       clear hy159
       replace H := Option.bind_eq_some_iff.mp H
       obtain ⟨⟨t160, t161⟩, A110, H⟩ := H
       have A11 := Aside0.mk A110
       clear A110
       replace H := Option.bind_eq_some_iff.mp H
       obtain ⟨t162, A120, H⟩ := H
       have A12 := Aside0.mk A120
       clear A120
       obtain rfl := Option.some.inj H
       obtain ⟨Ao13, co13, eo13⟩ := Kd.R_slice HO0_0.out
       subst eo13
       go_enter Try.func97, Try.ntmps97
       try go_wp2_with (first | ((with_reducible refine gd_ 2 rfl ?_); refine bv_ 2 #[.slice Ao13 l0_0.length co13] 29 ?_; intro gb152 hg w14 hbox hb; replace HO0_0 := Aside0.mk (Kd.R_below (kr_ HO0_0) hb); have BK152 := Aside0.mk (hbox); have GW152 := Aside0.mk ((by rw [hg]; exact (by first | exact HK.out.1 | exact (show Kept w _ (fun k_ => P0_0_ k_) from by repeat (first | (with_reducible first | exact HK.out | apply Kept.alloc | apply Kept.drewN | apply Kept.drew) | exact HK.out)).1) : w.heap.size ≤ gb152)); replace HK := Aside0.mk (Kept.below (S := (fun k_ => P0_0_ k_)) (by repeat (first | (with_reducible first | exact HK.out | apply Kept.alloc | apply Kept.drewN | apply Kept.drew) | exact HK.out)) hb); have GE152 := Aside0.mk ((by rw [hg]; exact (below_size (be_ HB)) : w0.heap.size ≤ gb152)); replace HB := Aside0.mk (below_step (be_ HB) hb); clear hb hbox hg) | ((with_reducible refine gd_ 4 rfl ?_); refine bv_ 4 #[.slice none 0 0] 29 ?_; intro gb153 hg w15 hbox hb; replace HO0_0 := Aside0.mk (Kd.R_below (kr_ HO0_0) hb); have BK153 := Aside0.mk (hbox); have GW153 := Aside0.mk ((by rw [hg]; exact (by first | exact HK.out.1 | exact (show Kept w _ (fun k_ => P0_0_ k_) from by repeat (first | (with_reducible first | exact HK.out | apply Kept.alloc | apply Kept.drewN | apply Kept.drew | refine Kept.setCell ?_ (.inr GW152.out) _) | exact HK.out)).1) : w.heap.size ≤ gb153)); replace HK := Aside0.mk (Kept.below (S := (fun k_ => P0_0_ k_)) (by repeat (first | (with_reducible first | exact HK.out | apply Kept.alloc | apply Kept.drewN | apply Kept.drew | refine Kept.setCell ?_ (.inr GW152.out) _) | exact HK.out)) hb); have GE153 := Aside0.mk ((by rw [hg]; exact (below_size (bf_ HB)) : w0.heap.size ≤ gb153)); replace HB := Aside0.mk (below_step (bf_ HB) hb); have NB152_153 := nl_ BK152 hg; have NB153_152 := ng_ BK152 hg; replace BK152 := bb_ BK152 hb; clear hb hbox hg; have hnb16 := NB152_153.out; have hnc16 := NB153_152.out; obtain ⟨hcz17_0, hfz17_0⟩ := bz1_ BK152; have p154 : 0 ≤ ((ji3) : Int) := od_; have q154 : (ji3) < (l0_0.length : Int) := od_; obtain ⟨ad154, e154, hx154_0, hx154_1⟩ := at_T68 (Kd.R_reads' HO0_0.out).2.2 (ji3) p154 q154; cases e154; replace p154 := eq_true p154; replace q154 := eq_true q154) | ((with_reducible refine gd_ 6 rfl ?_); refine bv_ 6 #[.int .i64 0, .int .i64 0] 68 ?_; intro gb155 hg w18 hbox hb; replace HO0_0 := Aside0.mk (Kd.R_below (Kd.R_elderB (kr_ HO0_0) gb155 (Nat.le_of_eq hg.symm)) hb); have BK155 := Aside0.mk (hbox); have GW155 := Aside0.mk ((by rw [hg]; exact (by first | exact HK.out.1 | exact (show Kept w _ (fun k_ => P0_0_ k_) from by repeat (first | (with_reducible first | exact HK.out | apply Kept.alloc | apply Kept.drewN | apply Kept.drew | refine Kept.setCell ?_ (.inr GW152.out) _ | refine Kept.setCell ?_ (.inr GW153.out) _) | exact HK.out)).1) : w.heap.size ≤ gb155)); replace HK := Aside0.mk (Kept.below (S := (fun k_ => P0_0_ k_)) (by repeat (first | (with_reducible first | exact HK.out | apply Kept.alloc | apply Kept.drewN | apply Kept.drew | refine Kept.setCell ?_ (.inr GW152.out) _ | refine Kept.setCell ?_ (.inr GW153.out) _) | exact HK.out)) hb); have GE155 := Aside0.mk ((by rw [hg]; exact (below_size (bf_ HB)) : w0.heap.size ≤ gb155)); replace HB := Aside0.mk (below_step (bf_ HB) hb); have NB152_155 := nl_ BK152 hg; have NB155_152 := ng_ BK152 hg; replace BK152 := bb_ BK152 hb; have NB153_155 := nl_ BK153 hg; have NB155_153 := ng_ BK153 hg; replace BK153 := bb_ BK153 hb; clear hb hbox hg; have hnb19 := NB155_152.out; have hnc19 := NB152_155.out; have hnb20 := NB155_153.out; have hnc20 := NB153_155.out; obtain ⟨hcz21_0, hcz21_1, hfz21_0, hfz21_1⟩ := bz2_ BK155) | ((with_reducible refine gate_store (t := 68) (p := 6) rfl ?_); refine store_event (t := 68) (p := 6) (v := ?vo_w22) (w1 := ((w18.setCell ⟨gb155, 0, none⟩ (.int .i64 ((rd_T68 l0_0 (ji3)).f0))).setCell ⟨gb155, 1, none⟩ (.int .i64 ((rd_T68 l0_0 (ji3)).f1)))) ?hg ?ho ?hn ?hr ?_; (case ho => rfl); (case hg => rfl); (case hn => rfl); (case hr => first | (go_simp; done) | (go_simp; rfl)); intro w22 hw; have n0_ : Aside0 (Kd.R k68 68 w22 w0.heap.size (fun k_ => (P0_0_ k_ ∨ w.heap.size ≤ k_) ∧ k_ ≠ gb155) (.slice (some ad154) l0_0.length co13) l0_0) := ⟨(by rw [hw]; exact (by (with_reducible repeat (first | apply Kd.R_alloc | apply Kd.R_drewN | apply Kd.R_drew)); exact Kd.R_mono (Kd.R_far (p := ⟨gb155, 1, none⟩) (Kd.R_far (p := ⟨gb155, 0, none⟩) (Kd.R_mono (ok' := fun k_ => _ ∧ k_ ≠ gb155) HO0_0.out (fun k_ hk => by first | exact (⟨hk, hk.2⟩ : _ ∧ k_ ≠ gb155) | grind)) (fun _ hk => by first | exact hk.2 | grind) (.int .i64 ((rd_T68 l0_0 (ji3)).f0))) (fun _ hk => by first | exact hk.2 | grind) (.int .i64 ((rd_T68 l0_0 (ji3)).f1))) (fun _ hk => by first | exact ⟨hk.1.1, hk.1.2⟩ | grind)))⟩; have n1_ : Aside0 (w22.heap[gb152]? = some (.cells #[.slice (some ad154) l0_0.length co13] 29 (0, 0))) := ⟨(by rw [hw]; exact (bl_ BK152))⟩; have n2_ : Aside0 (w22.heap[gb153]? = some (.cells #[.slice none 0 0] 29 (0, 0))) := ⟨(by rw [hw]; exact (bl_ BK153))⟩; have n3_ : Aside0 (w22.heap[gb155]? = some (.cells #[.int .i64 ((rd_T68 l0_0 (ji3)).f0), .int .i64 ((rd_T68 l0_0 (ji3)).f1)] 68 (0, 0))) := ⟨(by rw [hw]; exact (by (with_reducible repeat (first | refine blk_drewN ?_ _ | refine blk_drew ?_ | refine blk_alloc ?_ _)); refine blk_put (cs := #[.int .i64 ((rd_T68 l0_0 (ji3)).f0), .int .i64 0]) ?_ 1 _ rfl; (with_reducible repeat (first | refine blk_drewN ?_ _ | refine blk_drew ?_ | refine blk_alloc ?_ _)); refine blk_put (cs := #[.int .i64 0, .int .i64 0]) ?_ 0 _ rfl; exact bk_ BK155))⟩; have n4_ : Aside0 (Kept w w22 (fun k_ => P0_0_ k_)) := ⟨(by rw [hw]; exact (by repeat (first | (with_reducible first | exact HK.out | apply Kept.alloc | apply Kept.drewN | apply Kept.drew | refine Kept.setCell ?_ (.inr GW152.out) _ | refine Kept.setCell ?_ (.inr GW153.out) _ | refine Kept.setCell ?_ (.inr GW155.out) _) | exact HK.out)))⟩; have n5_ : Aside0 (Below w0.heap.size w0 w22) := ⟨(by rw [hw]; exact (bf_ HB))⟩; clear hw HO0_0 BK152 BK153 BK155 HK HB; have HO0_0 := n0_; have BK152 := n1_; have BK153 := n2_; have BK155 := n3_; have HK := n4_; have HB := n5_; clear n0_ n1_ n2_ n3_ n4_ n5_; obtain ⟨hcz23_0, hfz23_0⟩ := bz1_ BK152; have q24 : ((ji3) : Int) ≤ ((l0_0.length : Int) : Int) := od_; obtain ⟨i024, hi024, _, hsz24, _⟩ := info_parts info68; have hcut24 := cut_to (P := Try.prog) 26 68 .i64 Try.underlying26 hi024 (some ad154) l0_0.length co13 (ji3) (od_) q24 (Kd.R_reads' HO0_0.out).2.1; have hr24 := Kd.R_take (m := ((ji3) : Int).toNat) HO0_0.out (by omega); have hy24 : y156.length = ((ji3) : Int).toNat := (by rw [Ny156.out, List.length_take]; omega); rw [← Ny156.out] at hr24; rw [← hy24] at hr24 hcut24; clear hy24 hi024 hsz24 HO0_0; have HO158 := Aside0.mk hr24; clear hr24; replace q24 := eq_true q24) | ((with_reducible refine gate_store (t := 26) (p := 20) rfl ?_); refine store_event (t := 26) (p := 20) (v := ?vo_w25) (w1 := (w22.setCell ⟨gb152, 0, none⟩ (.slice (some ad154) y156.length co13))) ?hg ?ho ?hn ?hr ?_; (case ho => rfl); (case hg => rfl); (case hn => rfl); (case hr => first | (go_simp; done) | (go_simp; rfl)); intro w25 hw; have n0_ : Aside0 (Kd.R k68 68 w25 w0.heap.size (fun k_ => (P0_0_ k_ ∨ w.heap.size ≤ k_) ∧ k_ ≠ gb155) (.slice (some ad154) y156.length co13) y156) := ⟨(by rw [hw]; exact (by (with_reducible repeat (first | apply Kd.R_alloc | apply Kd.R_drewN | apply Kd.R_drew)); exact Kd.R_mono (Kd.R_far (p := ⟨gb152, 0, none⟩) (Kd.R_types HO158.out BK152.out (by decide)) (fun _ hk => by first | exact hk.2 | grind) (.slice (some ad154) y156.length co13)) (fun _ hk => by first | exact ⟨hk.1.1, hk.1.2⟩ | grind)))⟩; have n1_ : Aside0 (w25.heap[gb152]? = some (.cells #[.slice (some ad154) y156.length co13] 29 (0, 0))) := ⟨(by rw [hw]; exact (by (with_reducible repeat (first | refine blk_drewN ?_ _ | refine blk_drew ?_ | refine blk_alloc ?_ _)); refine blk_put (cs := #[.slice (some ad154) l0_0.length co13]) ?_ 0 _ rfl; exact bk_ BK152))⟩; have n2_ : Aside0 (w25.heap[gb153]? = some (.cells #[.slice none 0 0] 29 (0, 0))) := ⟨(by rw [hw]; exact (bl_ BK153))⟩; have n3_ : Aside0 (w25.heap[gb155]? = some (.cells #[.int .i64 ((rd_T68 l0_0 (ji3)).f0), .int .i64 ((rd_T68 l0_0 (ji3)).f1)] 68 (0, 0))) := ⟨(by rw [hw]; exact (bl_ BK155))⟩; have n4_ : Aside0 (Kept w w25 (fun k_ => P0_0_ k_)) := ⟨(by rw [hw]; exact (by repeat (first | (with_reducible first | exact HK.out | apply Kept.alloc | apply Kept.drewN | apply Kept.drew | refine Kept.setCell ?_ (.inr GW152.out) _ | refine Kept.setCell ?_ (.inr GW153.out) _ | refine Kept.setCell ?_ (.inr GW155.out) _) | exact HK.out)))⟩; have n5_ : Aside0 (Below w0.heap.size w0 w25) := ⟨(by rw [hw]; exact (bf_ HB))⟩; clear hw HO158 BK152 BK153 BK155 HK HB; have HO158 := n0_; have BK152 := n1_; have BK153 := n2_; have BK155 := n3_; have HK := n4_; have HB := n5_; clear n0_ n1_ n2_ n3_ n4_ n5_; obtain ⟨hcz26_0, hfz26_0⟩ := bz1_ BK152; have hcz27_0 : w25.cell? ⟨gb155, 0, none⟩ = some (.int .i64 ((rd_T68 l0_0 (ji3)).f0)) := (blk_cell BK155.out 0).trans rfl; have hcz27_1 : w25.cell? ⟨gb155, 1, none⟩ = some (.int .i64 ((rd_T68 l0_0 (ji3)).f1)) := (blk_cell BK155.out 1).trans rfl; have hfz27_0 := blk_frozen BK155.out 0; have hfz27_1 := blk_frozen BK155.out 1; have p10 : 0 ≤ (a1 : Int) := od_; have q10 : (a1 : Int) < ((y156.length : Int) : Int) := od_; obtain ⟨go10, co10, eo10, gb10, gl10, cl10, HG10⟩ := Kd.R_form HO158.out (by omega); (first | cases eo10 | (injection eo10 with ea_ en_ ec_; (first | subst ea_ | (injection ea_ with ea_; subst ea_)); subst ec_; clear en_)); have GB10 := Aside0.mk gb10; have GG10 := Aside0.mk HG10; clear gb10 gl10 HG10; have HMgo10 := Aside0.mk (show (P0_0_ go10 ∨ w.heap.size ≤ go10) from (HO158.out.1 _ rfl).1); (first | simp only [add_plain] at hx154_0 | skip); (first | simp only [add_plain] at hx154_1 | skip); obtain ⟨ce10, hcl10, hM10, hcc10, hfr10⟩ := Kd.R_elem HO158.out z68 (a1 : Int) p10 q10; obtain rfl := k68_openM hM10; have hx10_0 : w25.cell? ⟨go10, (a1 : Int).toNat * 2, none⟩ = some (.int .i64 ((rd_T68 y156 a1).f0)) := hcc10 0 _ rfl; have hx10_1 : w25.cell? ⟨go10, (a1 : Int).toNat * 2 + 1, none⟩ = some (.int .i64 ((rd_T68 y156 a1).f1)) := hcc10 1 _ rfl; have hf10_0 : w25.frozen? ⟨go10, (a1 : Int).toNat * 2, none⟩ = false := hfr10 0; have hf10_1 : w25.frozen? ⟨go10, (a1 : Int).toNat * 2 + 1, none⟩ = false := hfr10 1; clear hcl10 hcc10 hfr10 hM10; replace p10 := eq_true p10; replace q10 := eq_true q10; have HX28 := Aside0.mk (show Kd.R k68 68 w25 w0.heap.size (fun k_ => (P0_0_ k_ ∨ w.heap.size ≤ k_) ∧ k_ ≠ gb155) (.slice (some ⟨go10, 0, none⟩) y156.length co13) y156 from (kr_ HO158)); obtain ⟨ce28, hcl28, hM28, hcc28, hfr28⟩ := Kd.R_elem HX28.out z68 (a1 : Int) (od_) (by have h_ : (a1 : Int) < ((y156.length : Int) : Int) := od_; first | exact h_ | (have e_ := (Kd.R_reads' HO158.out).1; omega) | simpa using h_); obtain rfl := k68_openM hM28; have HP28 := Kd.R_seg HX28.out (a1 : Int) (od_) (by have h_ : (a1 : Int) < ((y156.length : Int) : Int) := od_; first | exact h_ | (have e_ := (Kd.R_reads' HO158.out).1; omega) | simpa using h_) (seg := [.int .i64 ((rd_T68 l0_0 (ji3)).f0), .int .i64 ((rd_T68 l0_0 (ji3)).f1)]) (j := 0) hcl28 hcc28 (show 2 ≤ 2 from by decide) (x' := (⟨(rd_T68 l0_0 (ji3)).f0, (rd_T68 l0_0 (ji3)).f1⟩ : S68)) (k68_mkM _ _ _ (⟨(rd_T68 l0_0 (ji3)).f0, (rd_T68 l0_0 (ji3)).f1⟩ : S68) ) (fun _ hk => by first | exact hk | grind); have hx28_0 := hcc28 0 _ rfl; (try simp only [show (k68).sz = 2 from rfl, Nat.mul_one, Nat.add_zero] at hx28_0); have hf28_0 := hfr28 0; (try simp only [show (k68).sz = 2 from rfl, Nat.mul_one, Nat.add_zero] at hf28_0); have hx28_1 := hcc28 1 _ rfl; (try simp only [show (k68).sz = 2 from rfl, Nat.mul_one, Nat.add_zero] at hx28_1); have hf28_1 := hfr28 1; (try simp only [show (k68).sz = 2 from rfl, Nat.mul_one, Nat.add_zero] at hf28_1); clear hcl28 hcc28 hfr28 hM28) | ((with_reducible refine gate_store (t := 68) (p := 28) rfl ?_); refine store_event (t := 68) (p := 28) (v := ?vo_w29) (w1 := ((w25.setCell ⟨go10, (a1 : Int).toNat * 2, none⟩ (.int .i64 ((rd_T68 l0_0 (ji3)).f0))).setCell ⟨go10, (a1 : Int).toNat * 2 + 1, none⟩ (.int .i64 ((rd_T68 l0_0 (ji3)).f1)))) ?hg ?ho ?hn ?hr ?_; (case ho => rfl); (case hg => rfl); (case hn => rfl); (case hr => first | (go_simp; done) | (go_simp; rfl)); intro w29 hw; have hg : w25.grownBy w29 (some go10) := (by rw [hw]; exact HP28.2); have hp_ : Kd.R k68 68 w29 w0.heap.size (fun k_ => (P0_0_ k_ ∨ w.heap.size ≤ k_) ∧ k_ ≠ gb155) (.slice (some ⟨go10, 0, none⟩) y156.length co13) y159 := (by rw [hw, Ny159.out]; exact HP28.1); clear HP28; replace BK152 := Aside0.mk (blk_grown (g := gb152) (o := .cells #[.slice (some ⟨go10, 0, none⟩) y156.length co13] 29 (0, 0)) (bk_ BK152) hg (Kd.R_ne HO158.out BK152.out (by decide))); replace BK153 := Aside0.mk (blk_grown (g := gb153) (o := .cells #[.slice none 0 0] 29 (0, 0)) (bk_ BK153) hg (Kd.R_ne HO158.out BK153.out (by decide))); replace BK155 := Aside0.mk (blk_grown (g := gb155) (o := .cells #[.int .i64 ((rd_T68 l0_0 (ji3)).f0), .int .i64 ((rd_T68 l0_0 (ji3)).f1)] 68 (0, 0)) (bk_ BK155) hg (Kd.R_away HO158.out (fun _ hk => by first | exact hk.2 | grind))); replace HB := Aside0.mk ((by rw [hw]; exact below_set (below_set (HB.out) GB10.out) GB10.out : Below w0.heap.size w0 w29)); replace HK := Aside0.mk (Kept.of_grown (S := (fun k_ => P0_0_ k_)) hg (by repeat (first | (with_reducible first | exact HK.out | apply Kept.alloc | apply Kept.drewN | apply Kept.drew | refine Kept.setCell ?_ (.inr GW152.out) _ | refine Kept.setCell ?_ (.inr GW153.out) _ | refine Kept.setCell ?_ (.inr GW155.out) _) | exact HK.out)) (fun k_ e_ => (HO158.out.1 k_ e_).1)); replace HO158 := Aside0.mk (hp_); clear hg hw hp_))
       have n0_ := Aside0.mk (Kd.R_drew HO158.out); have n1_ := Aside0.mk (blk_drew BK152.out); have n2_ := Aside0.mk (blk_drew BK153.out); have n3_ := Aside0.mk (blk_drew BK155.out); have n4_ := Aside0.mk (Kept.drew HK.out); have n5_ := Aside0.mk (below_drew1 HB.out); clear HO158 BK152 BK153 BK155 HK HB; have HO158 := n0_; have BK152 := n1_; have BK153 := n2_; have BK155 := n3_
       have HK := n4_
       have HB := n5_; clear n0_ n1_ n2_ n3_ n4_ n5_
       refine start_ (n := 5) (S := fun w' => cw_ w' gb152 0 (.slice (some ⟨go10, 0, none⟩) y156.length co13)) (ds := []) (bs 5 0) (by kernel_rfl) rfl rfl ((blk_cell BK152.out 0).trans rfl) (fun hHeld => ?_)
       generalize w29.drew = w30 at HO158 BK152 BK153 BK155 HK HB hHeld ⊢
       refine ps0_ 2 31 #[oF,oF,oT,oF,oF] ?_
       refine tk0_ 0 29 #[oT,oF,oT,oF,oF] hHeld ?_
       refine tk0_ 1 30 (bs 5 3) hHeld ?_
       refine on0_ 3 (some 32) (bs 5 4) (fun K hK => ?_)
       refine gs_ Try.func102 #[.agg #[.slice (some ⟨go10, 0, none⟩) y156.length co13], .int .i64 a1] ?_
       with_reducible refine (impl_Heap_up.calls k (fun k_ => some k_ = (.slice (some ⟨go10, 0, none⟩) y156.length co13 : Value).ownBlock) (.slice (some ⟨go10, 0, none⟩) y156.length co13) y159 a1 t160 t161 w0 _ ?side1 ?side2 A11.out).mono ?_
       (case side1 => repeat (first | (with_reducible first | exact HB.out | apply below_alloc | apply pw_below_drewN | apply below_drew1 | refine below_set ?_ GE152.out | refine below_set ?_ GE153.out | refine below_set ?_ GE155.out) | exact HB.out))
       (case side2 => exact Kd.R_tight rfl HO158.out)
       rintro e w31 ⟨rfl, hy0, hb, hkp⟩
       refine ⟨_, rfl, ?_⟩
       have n0_ := Aside0.mk (Kd.R_reok rfl hy0 (fun k_ e_ => HO158.out.1 k_ e_))
       have n1_ := Aside0.mk (blk_kept (bk_ BK152) hkp (fun hs_ => (fun e_ => (Kd.R_ne HO158.out BK152.out (by decide)) e_) hs_))
       have n2_ := Aside0.mk (blk_kept (bk_ BK153) hkp (fun hs_ => (fun e_ => (Kd.R_ne HO158.out BK153.out (by decide)) e_) hs_))
       have n3_ := Aside0.mk (blk_kept (bk_ BK155) hkp (fun hs_ => (fun e_ => (Kd.R_away HO158.out (fun _ hk => by first | exact hk.2 | grind)) e_) hs_))
       have n4_ := Aside0.mk (Kept.then_ (S := (fun k_ => P0_0_ k_)) (by repeat (first | (with_reducible first | exact HK.out | apply Kept.alloc | apply Kept.drewN | apply Kept.drew | refine Kept.setCell ?_ (.inr GW152.out) _ | refine Kept.setCell ?_ (.inr GW153.out) _ | refine Kept.setCell ?_ (.inr GW155.out) _) | exact HK.out)) hkp (fun k_ hs_ => (fun e_ => (HO158.out.1 k_ e_.symm).1) hs_))
       have n5_ := Aside0.mk (hb); clear HO158 BK152 BK153 BK155 HK HB; have HO158 := n0_; have BK152 := n1_; have BK153 := n2_; have BK155 := n3_
       have HK := n4_
       have HB := n5_; clear n0_ n1_ n2_ n3_ n4_ n5_; (try clear hb); (try clear hkp); (try clear hy0)
       refine hK.out _ _ ((blk_cell BK152.out 0).trans rfl) (fun hHeld => ?_)
       clear hK K
       refine norm_ (a' := ?_) ?_ ?_
       rotate_left
       ·show Act.put _ (some 32) _ = _
        simp only [Act.put, ls0_, ls1_, ls2_, i64_w, i32_w]
        rfl
       refine on0_ 4 (some 33) (bs 5 5) (fun K hK => ?_)
       refine gs_ Try.func103 #[.agg #[.slice (some ⟨go10, 0, none⟩) y156.length co13], .int .i64 t160] ?_
       with_reducible refine (impl_Heap_down.calls k (fun k_ => some k_ = (.slice (some ⟨go10, 0, none⟩) y156.length co13 : Value).ownBlock) (.slice (some ⟨go10, 0, none⟩) y156.length co13) t161 t160 t162 w0 _ ?side1 ?side2 A12.out).mono ?_
       (case side1 => repeat (first | (with_reducible first | exact HB.out | apply below_alloc | apply pw_below_drewN | apply below_drew1 | refine below_set ?_ GE152.out | refine below_set ?_ GE153.out | refine below_set ?_ GE155.out) | exact HB.out))
       (case side2 => exact Kd.R_tight rfl HO158.out)
       rintro e w32 ⟨rfl, hy0, hb, hkp⟩
       refine ⟨_, rfl, ?_⟩
       have n0_ := Aside0.mk (Kd.R_reok rfl hy0 (fun k_ e_ => HO158.out.1 k_ e_))
       have n1_ := Aside0.mk (blk_kept (bk_ BK152) hkp (fun hs_ => (fun e_ => (Kd.R_ne HO158.out BK152.out (by decide)) e_) hs_))
       have n2_ := Aside0.mk (blk_kept (bk_ BK153) hkp (fun hs_ => (fun e_ => (Kd.R_ne HO158.out BK153.out (by decide)) e_) hs_))
       have n3_ := Aside0.mk (blk_kept (bk_ BK155) hkp (fun hs_ => (fun e_ => (Kd.R_away HO158.out (fun _ hk => by first | exact hk.2 | grind)) e_) hs_))
       have n4_ := Aside0.mk (Kept.then_ (S := (fun k_ => P0_0_ k_)) (by repeat (first | (with_reducible first | exact HK.out | apply Kept.alloc | apply Kept.drewN | apply Kept.drew | refine Kept.setCell ?_ (.inr GW152.out) _ | refine Kept.setCell ?_ (.inr GW153.out) _ | refine Kept.setCell ?_ (.inr GW155.out) _) | exact HK.out)) hkp (fun k_ hs_ => (fun e_ => (HO158.out.1 k_ e_.symm).1) hs_))
       have n5_ := Aside0.mk (hb); clear HO158 BK152 BK153 BK155 HK HB; have HO158 := n0_; have BK152 := n1_; have BK153 := n2_; have BK155 := n3_
       have HK := n4_
       have HB := n5_; clear n0_ n1_ n2_ n3_ n4_ n5_; (try clear hb); (try clear hkp); (try clear hy0)
       refine hK.out _ _ ((blk_cell BK152.out 0).trans rfl) (fun hHeld => ?_)
       clear hK K
       refine norm_ (a' := ?_) ?_ ?_
       rotate_left
       ·show Act.put _ (some 33) _ = _
        simp only [Act.put, ls0_, ls1_, ls2_, i64_w, i32_w]
        rfl
       refine done_ (by kernel_rfl) ?_
       have hcz33_0 := bc_ BK152 0 (.slice (some ⟨go10, 0, none⟩) y156.length co13) rfl
       have hfz33_0 := blk_frozen BK152.out 0; obtain ⟨hcz34_0, hfz34_0⟩ := bz1_ BK153
       try go_wp2
       refine bodyPost_ret (results_cell_row rfl _ _ gb153 29 #[.slice (some ⟨go10, 0, none⟩) y156.length co13] (0, 0) _ rfl (by (with_reducible repeat (first | refine blk_drewN ?_ _ | refine blk_drew ?_ | refine blk_alloc ?_ _)); refine blk_put (cs := #[.slice none 0 0]) ?_ 0 _ rfl; exact bk_ BK153) Try.underlying29 rfl (by kernel_rfl)) rfl ?_
       exact ⟨_, by first | rfl | (simp [errW_none, errW_some] <;> rfl) | (simp only [← hji3]; first | rfl | (simp [errW_none, errW_some] <;> rfl)) | (simp [*, errW_none, errW_some] <;> rfl), by (with_reducible repeat (first | apply Kd.R_alloc | apply Kd.R_drewN | apply Kd.R_drew)); exact Kd.R_mono (Kd.R_far (p := ⟨gb153, 0, none⟩) (Kd.R_types HO158.out BK153.out (by decide)) (fun _ hk => by first | exact hk.2 | grind) (.slice (some ⟨go10, 0, none⟩) y156.length co13)) (fun _ hk => by first | exact hk.1.1 | grind), by repeat (first | (with_reducible first | exact HB.out | apply below_alloc | apply pw_below_drewN | apply below_drew1 | refine below_set ?_ GE152.out | refine below_set ?_ GE153.out | refine below_set ?_ GE155.out) | exact HB.out), by repeat (first | (with_reducible first | exact HK.out | apply Kept.alloc | apply Kept.drewN | apply Kept.drew | refine Kept.setCell ?_ (.inr GW152.out) _ | refine Kept.setCell ?_ (.inr GW153.out) _ | refine Kept.setCell ?_ (.inr GW155.out) _) | exact HK.out)⟩
      ·rw [if_neg c9] at H
       exact absurd H (by simp)
     ·rw [if_neg c8] at H
      exact absurd H (by simp)
    ·rw [if_neg c7] at H
     have c7b0 : decide (a1 < (ji3)) = false := decide_eq_false c7
     clear c7
     obtain rfl := Option.some.inj H
     obtain ⟨Ao35, co35, eo35⟩ := Kd.R_slice HO0_0.out
     subst eo35
     go_enter Try.func97, Try.ntmps97
     go_wp2_with (first | ((with_reducible refine gd_ 2 rfl ?_); refine bv_ 2 #[.slice Ao35 l0_0.length co35] 29 ?_; intro gb152 hg w36 hbox hb; replace HO0_0 := Aside0.mk (Kd.R_below (kr_ HO0_0) hb); have BK152 := Aside0.mk (hbox); have GW152 := Aside0.mk ((by rw [hg]; exact (by first | exact HK.out.1 | exact (show Kept w _ (fun k_ => P0_0_ k_) from by repeat (first | (with_reducible first | exact HK.out | apply Kept.alloc | apply Kept.drewN | apply Kept.drew) | exact HK.out)).1) : w.heap.size ≤ gb152)); replace HK := Aside0.mk (Kept.below (S := (fun k_ => P0_0_ k_)) (by repeat (first | (with_reducible first | exact HK.out | apply Kept.alloc | apply Kept.drewN | apply Kept.drew) | exact HK.out)) hb); have GE152 := Aside0.mk ((by rw [hg]; exact (below_size (be_ HB)) : w0.heap.size ≤ gb152)); replace HB := Aside0.mk (below_step (be_ HB) hb); clear hb hbox hg) | ((with_reducible refine gd_ 4 rfl ?_); refine bv_ 4 #[.slice none 0 0] 29 ?_; intro gb153 hg w37 hbox hb; replace HO0_0 := Aside0.mk (Kd.R_below (kr_ HO0_0) hb); have BK153 := Aside0.mk (hbox); have GW153 := Aside0.mk ((by rw [hg]; exact (by first | exact HK.out.1 | exact (show Kept w _ (fun k_ => P0_0_ k_) from by repeat (first | (with_reducible first | exact HK.out | apply Kept.alloc | apply Kept.drewN | apply Kept.drew | refine Kept.setCell ?_ (.inr GW152.out) _) | exact HK.out)).1) : w.heap.size ≤ gb153)); replace HK := Aside0.mk (Kept.below (S := (fun k_ => P0_0_ k_)) (by repeat (first | (with_reducible first | exact HK.out | apply Kept.alloc | apply Kept.drewN | apply Kept.drew | refine Kept.setCell ?_ (.inr GW152.out) _) | exact HK.out)) hb); have GE153 := Aside0.mk ((by rw [hg]; exact (below_size (bf_ HB)) : w0.heap.size ≤ gb153)); replace HB := Aside0.mk (below_step (bf_ HB) hb); have NB152_153 := nl_ BK152 hg; have NB153_152 := ng_ BK152 hg; replace BK152 := bb_ BK152 hb; clear hb hbox hg; have hnb38 := NB152_153.out; have hnc38 := NB153_152.out; obtain ⟨hcz39_0, hfz39_0⟩ := bz1_ BK152; have p154 : 0 ≤ ((ji3) : Int) := od_; have q154 : (ji3) < (l0_0.length : Int) := od_; obtain ⟨ad154, e154, hx154_0, hx154_1⟩ := at_T68 (Kd.R_reads' HO0_0.out).2.2 (ji3) p154 q154; cases e154; replace p154 := eq_true p154; replace q154 := eq_true q154) | ((with_reducible refine gd_ 6 rfl ?_); refine bv_ 6 #[.int .i64 0, .int .i64 0] 68 ?_; intro gb155 hg w40 hbox hb; replace HO0_0 := Aside0.mk (Kd.R_below (Kd.R_elderB (kr_ HO0_0) gb155 (Nat.le_of_eq hg.symm)) hb); have BK155 := Aside0.mk (hbox); have GW155 := Aside0.mk ((by rw [hg]; exact (by first | exact HK.out.1 | exact (show Kept w _ (fun k_ => P0_0_ k_) from by repeat (first | (with_reducible first | exact HK.out | apply Kept.alloc | apply Kept.drewN | apply Kept.drew | refine Kept.setCell ?_ (.inr GW152.out) _ | refine Kept.setCell ?_ (.inr GW153.out) _) | exact HK.out)).1) : w.heap.size ≤ gb155)); replace HK := Aside0.mk (Kept.below (S := (fun k_ => P0_0_ k_)) (by repeat (first | (with_reducible first | exact HK.out | apply Kept.alloc | apply Kept.drewN | apply Kept.drew | refine Kept.setCell ?_ (.inr GW152.out) _ | refine Kept.setCell ?_ (.inr GW153.out) _) | exact HK.out)) hb); have GE155 := Aside0.mk ((by rw [hg]; exact (below_size (bf_ HB)) : w0.heap.size ≤ gb155)); replace HB := Aside0.mk (below_step (bf_ HB) hb); have NB152_155 := nl_ BK152 hg; have NB155_152 := ng_ BK152 hg; replace BK152 := bb_ BK152 hb; have NB153_155 := nl_ BK153 hg; have NB155_153 := ng_ BK153 hg; replace BK153 := bb_ BK153 hb; clear hb hbox hg; have hnb41 := NB155_152.out; have hnc41 := NB152_155.out; have hnb42 := NB155_153.out; have hnc42 := NB153_155.out; obtain ⟨hcz43_0, hcz43_1, hfz43_0, hfz43_1⟩ := bz2_ BK155) | ((with_reducible refine gate_store (t := 68) (p := 6) rfl ?_); refine store_event (t := 68) (p := 6) (v := ?vo_w44) (w1 := ((w40.setCell ⟨gb155, 0, none⟩ (.int .i64 ((rd_T68 l0_0 (ji3)).f0))).setCell ⟨gb155, 1, none⟩ (.int .i64 ((rd_T68 l0_0 (ji3)).f1)))) ?hg ?ho ?hn ?hr ?_; (case ho => rfl); (case hg => rfl); (case hn => rfl); (case hr => first | (go_simp; done) | (go_simp; rfl)); intro w44 hw; have n0_ : Aside0 (Kd.R k68 68 w44 w0.heap.size (fun k_ => (P0_0_ k_ ∨ w.heap.size ≤ k_) ∧ k_ ≠ gb155) (.slice (some ad154) l0_0.length co35) l0_0) := ⟨(by rw [hw]; exact (by (with_reducible repeat (first | apply Kd.R_alloc | apply Kd.R_drewN | apply Kd.R_drew)); exact Kd.R_mono (Kd.R_far (p := ⟨gb155, 1, none⟩) (Kd.R_far (p := ⟨gb155, 0, none⟩) (Kd.R_mono (ok' := fun k_ => _ ∧ k_ ≠ gb155) HO0_0.out (fun k_ hk => by first | exact (⟨hk, hk.2⟩ : _ ∧ k_ ≠ gb155) | grind)) (fun _ hk => by first | exact hk.2 | grind) (.int .i64 ((rd_T68 l0_0 (ji3)).f0))) (fun _ hk => by first | exact hk.2 | grind) (.int .i64 ((rd_T68 l0_0 (ji3)).f1))) (fun _ hk => by first | exact ⟨hk.1.1, hk.1.2⟩ | grind)))⟩; have n1_ : Aside0 (w44.heap[gb152]? = some (.cells #[.slice (some ad154) l0_0.length co35] 29 (0, 0))) := ⟨(by rw [hw]; exact (bl_ BK152))⟩; have n2_ : Aside0 (w44.heap[gb153]? = some (.cells #[.slice none 0 0] 29 (0, 0))) := ⟨(by rw [hw]; exact (bl_ BK153))⟩; have n3_ : Aside0 (w44.heap[gb155]? = some (.cells #[.int .i64 ((rd_T68 l0_0 (ji3)).f0), .int .i64 ((rd_T68 l0_0 (ji3)).f1)] 68 (0, 0))) := ⟨(by rw [hw]; exact (by (with_reducible repeat (first | refine blk_drewN ?_ _ | refine blk_drew ?_ | refine blk_alloc ?_ _)); refine blk_put (cs := #[.int .i64 ((rd_T68 l0_0 (ji3)).f0), .int .i64 0]) ?_ 1 _ rfl; (with_reducible repeat (first | refine blk_drewN ?_ _ | refine blk_drew ?_ | refine blk_alloc ?_ _)); refine blk_put (cs := #[.int .i64 0, .int .i64 0]) ?_ 0 _ rfl; exact bk_ BK155))⟩; have n4_ : Aside0 (Kept w w44 (fun k_ => P0_0_ k_)) := ⟨(by rw [hw]; exact (by repeat (first | (with_reducible first | exact HK.out | apply Kept.alloc | apply Kept.drewN | apply Kept.drew | refine Kept.setCell ?_ (.inr GW152.out) _ | refine Kept.setCell ?_ (.inr GW153.out) _ | refine Kept.setCell ?_ (.inr GW155.out) _) | exact HK.out)))⟩; have n5_ : Aside0 (Below w0.heap.size w0 w44) := ⟨(by rw [hw]; exact (bf_ HB))⟩; clear hw HO0_0 BK152 BK153 BK155 HK HB; have HO0_0 := n0_; have BK152 := n1_; have BK153 := n2_; have BK155 := n3_; have HK := n4_; have HB := n5_; clear n0_ n1_ n2_ n3_ n4_ n5_; obtain ⟨hcz45_0, hfz45_0⟩ := bz1_ BK152; have q46 : ((ji3) : Int) ≤ ((l0_0.length : Int) : Int) := od_; obtain ⟨i046, hi046, _, hsz46, _⟩ := info_parts info68; have hcut46 := cut_to (P := Try.prog) 26 68 .i64 Try.underlying26 hi046 (some ad154) l0_0.length co35 (ji3) (od_) q46 (Kd.R_reads' HO0_0.out).2.1; have hr46 := Kd.R_take (m := ((ji3) : Int).toNat) HO0_0.out (by omega); have hy46 : y156.length = ((ji3) : Int).toNat := (by rw [Ny156.out, List.length_take]; omega); rw [← Ny156.out] at hr46; rw [← hy46] at hr46 hcut46; clear hy46 hi046 hsz46 HO0_0; have HO158 := Aside0.mk hr46; clear hr46; replace q46 := eq_true q46; obtain ⟨hcz47_0, hfz47_0⟩ := bz1_ BK153))
     refine bodyPost_ret (results_cell_row rfl _ _ gb153 29 #[.slice (some ad154) y156.length co35] (0, 0) _ rfl (by (with_reducible repeat (first | refine blk_drewN ?_ _ | refine blk_drew ?_ | refine blk_alloc ?_ _)); refine blk_put (cs := #[.slice none 0 0]) ?_ 0 _ rfl; (with_reducible repeat (first | refine blk_drewN ?_ _ | refine blk_drew ?_ | refine blk_alloc ?_ _)); refine blk_far ?_ NB153_152.out _; exact bk_ BK153) Try.underlying29 rfl (by kernel_rfl)) rfl ?_
     exact ⟨_, by first | rfl | (simp [errW_none, errW_some] <;> rfl) | (simp only [← hji3]; first | rfl | (simp [errW_none, errW_some] <;> rfl)) | (simp [*, errW_none, errW_some] <;> rfl), by (with_reducible repeat (first | apply Kd.R_alloc | apply Kd.R_drewN | apply Kd.R_drew)); exact Kd.R_mono (Kd.R_far (p := ⟨gb153, 0, none⟩) (Kd.R_far (p := ⟨gb152, 0, none⟩) (Kd.R_types (Kd.R_types HO158.out BK152.out (by decide)) BK153.out (by decide)) (fun _ hk => by first | exact hk.1.2 | grind) (.slice (some ad154) y156.length co35)) (fun _ hk => by first | exact hk.2 | grind) (.slice (some ad154) y156.length co35)) (fun _ hk => by first | exact hk.1.1.1 | grind), by repeat (first | (with_reducible first | exact HB.out | apply below_alloc | apply pw_below_drewN | apply below_drew1 | refine below_set ?_ GE152.out | refine below_set ?_ GE153.out | refine below_set ?_ GE155.out) | exact HB.out), by repeat (first | (with_reducible first | exact HK.out | apply Kept.alloc | apply Kept.drewN | apply Kept.drew | refine Kept.setCell ?_ (.inr GW152.out) _ | refine Kept.setCell ?_ (.inr GW153.out) _ | refine Kept.setCell ?_ (.inr GW155.out) _) | exact HK.out)⟩
   ·rw [if_neg c6] at H
    exact absurd H (by simp)
  ·rw [if_neg c5] at H
   exact absurd H (by simp)
 ·rw [if_neg c4] at H
  exact absurd H (by simp)

/-! ### impl_HeapDrop: function 36 -/
def impl_HeapDrop.f (k : Nat) (l0_0 : List (S68)) (a1 : Int) : Option ((List (S68)) × Int) := (impl_Heap_place.f l0_0 a1).bind fun t165 => ((impl_HeapOk.f k l0_0).bind fun t166 => (if t166 = true then (if t165 < 0 then (some (([] : List (S68)), 4)) else ((impl_copyHeap.f l0_0).bind fun t167 => ((impl_Heap_remove.f k t167 t165).bind fun t170 => (some (t170, 0))))) else (some (([] : List (S68)), 1))))
theorem impl_HeapDrop.mono : ∀ a0 a1 k, LeO (impl_HeapDrop.f k a0 a1) (impl_HeapDrop.f (k + 1) a0 a1) := by
 intro a0 a1 k
 unfold impl_HeapDrop.f
 repeat' (first | (with_reducible exact impl_HeapOk.mono _ _) | (with_reducible exact impl_Heap_remove.mono _ _ _) | (with_reducible exact LeO.refl _) | (with_reducible exact LeO.none _) | (with_reducible refine LeO.ite ?_ ?_) | (with_reducible refine LeO.bind ?_ (fun _ => ?_)) | exact impl_HeapOk.mono _ _ | exact impl_Heap_remove.mono _ _ _ | exact LeO.none _ | refine LeO.ite ?_ ?_ | refine LeO.bind ?_ (fun _ => ?_))
set_option maxHeartbeats 8000000 in
set_option maxRecDepth 100000 in
theorem impl_HeapDrop.calls (k : Nat) (A0_0 : Option Addr) (c0_0 : Nat) (l0_0 : List (S68)) (a1 : Int) (r1 : List (S68)) (r2 : Int) (w : World) (hr0_0 : Kd.C k68 w A0_0 l0_0.length l0_0) (hc0_0 : l0_0.length ≤ c0_0) (h : impl_HeapDrop.f k l0_0 a1 = some (r1, r2)) :
  Calls Try.prog 36 #[.agg #[.slice A0_0 l0_0.length c0_0], .int .i64 a1] w fun e w' => ∃ v0_ : Value, e = .returned (.tuple #[.agg #[v0_], .int .i64 r2]) ∧ Kd.R k68 68 w' w.heap.size (fun _ => True) v0_ r1 ∧ Below w.heap.size w w' := by
 have hu29 := Try.underlying29
 have HR0_0 := Aside0.mk hr0_0
 have HC0_0 := Aside0.mk hc0_0
 clear hr0_0 hc0_0; have HB := Aside0.mk (Below.refl w.heap.size w)
 have H := h
 clear h
 unfold impl_HeapDrop.f at H
 replace H := Option.bind_eq_some_iff.mp H
 obtain ⟨t165, A30, H⟩ := H
 have A3 := Aside0.mk A30
 clear A30
 replace H := Option.bind_eq_some_iff.mp H
 obtain ⟨t166, A40, H⟩ := H
 have A4 := Aside0.mk A40
 clear A40
 by_cases c5 : t166 = true
 ·subst c5
  rw [if_pos rfl] at H
  by_cases c6 : t165 < 0
  ·rw [if_pos c6] at H
   have c6b0 : decide (t165 < 0) = true := decide_eq_true c6
   clear c6
   simp only [Option.some.injEq, Prod.mk.injEq] at H
   obtain ⟨rfl, rfl⟩ := H
   go_enter Try.func36, Try.ntmps36
   go_wp2_with (first | ((with_reducible refine gd_ 2 rfl ?_); refine bv_ 2 #[.slice A0_0 l0_0.length c0_0] 29 ?_; intro gb163 hg w7 hbox hb; have BK163 := Aside0.mk (hbox); have GW163 := gw_ HB hg; have GE163 := gw_ HB hg; replace HB := Aside0.mk (below_step (be_ HB) hb); clear hb hbox hg) | ((with_reducible refine gd_ 4 rfl ?_); refine bv_ 4 #[.slice none 0 0] 29 ?_; intro gb164 hg w8 hbox hb; have BK164 := Aside0.mk (hbox); have GW164 := gw_ HB hg; have GE164 := gw_ HB hg; replace HB := Aside0.mk (below_step (bf_ HB) hb); have NB163_164 := nl_ BK163 hg; have NB164_163 := ng_ BK163 hg; replace BK163 := bb_ BK163 hb; clear hb hbox hg; have hnb9 := NB163_164.out; have hnc9 := NB164_163.out; obtain ⟨hcz10_0, hfz10_0⟩ := bz1_ BK163) | ((with_reducible refine gc_ 95 rfl ?_); refine gl_ 9 Try.func95 #[.agg #[.slice A0_0 l0_0.length c0_0], .int .i64 a1] ?_; (with_reducible refine (impl_Heap_place.calls _ _ l0_0 a1 t165 _ ?side1 ?side2 A3.out).mono ?_); (case side1 => repeat (first | exact (Kd.C_below HR0_0.out HB.out) | (with_reducible refine Kd.C_alloc ?_ _) | (with_reducible refine Kd.C_drewN ?_ _) | (with_reducible refine Kd.C_drew ?_))); (case side2 => exact HC0_0.out); rintro e w11 ⟨rfl, hb⟩; refine ⟨_, rfl, ?_⟩; replace BK163 := bb_ BK163 hb; replace BK164 := bb_ BK164 hb; replace HB := Aside0.mk (below_step (bf_ HB) hb); (try clear hb); (try clear hb2); (try clear hk); (try clear hi); obtain ⟨hcz12_0, hfz12_0⟩ := bz1_ BK163) | ((with_reducible refine gc_ 41 rfl ?_); refine gl_ 12 Try.func41 #[.agg #[.slice A0_0 l0_0.length c0_0]] ?_; (with_reducible refine (impl_HeapOk.calls k _ _ l0_0 true _ ?side1 ?side2 A4.out).mono ?_); (case side1 => repeat (first | exact (Kd.C_below HR0_0.out HB.out) | (with_reducible refine Kd.C_alloc ?_ _) | (with_reducible refine Kd.C_drewN ?_ _) | (with_reducible refine Kd.C_drew ?_))); (case side2 => exact HC0_0.out); rintro e w13 ⟨rfl, hb⟩; refine ⟨_, rfl, ?_⟩; replace BK163 := bb_ BK163 hb; replace BK164 := bb_ BK164 hb; replace HB := Aside0.mk (below_step (bf_ HB) hb); (try clear hb); (try clear hb2); (try clear hk); (try clear hi); obtain ⟨hcz14_0, hfz14_0⟩ := bz1_ BK164))
   refine bodyPost_ret (results_ct rfl _ _ gb164 29 #[.slice none 0 0] (0, 0) _ rfl (by (with_reducible repeat (first | refine blk_drewN ?_ _ | refine blk_drew ?_ | refine blk_alloc ?_ _)); refine blk_put (cs := #[.slice none 0 0]) ?_ 0 _ rfl; exact bk_ BK164) Try.underlying29 rfl (by kernel_rfl)) rfl ?_
   exact ⟨_, by first | rfl | (simp [errW_none, errW_some] <;> rfl) | (simp [*, errW_none, errW_some] <;> rfl), by first | exact Kd.R_nil _ _ _ _ _ | exact Kd.N_nil _ _ _ _ _ | exact Kd.V_nil _ _ _ _ _ | exact Kd.Q_nil _ _ _ _ _ | exact Kd.S_nil _ _ _ _ _, bf_ HB⟩
  ·rw [if_neg c6] at H
   have c6b0 : decide (t165 < 0) = false := decide_eq_false c6
   clear c6
   replace H := Option.bind_eq_some_iff.mp H
   obtain ⟨t167, A150, H⟩ := H
   have A15 := Aside0.mk A150
   clear A150
   replace H := Option.bind_eq_some_iff.mp H
   obtain ⟨t170, A160, H⟩ := H
   have A16 := Aside0.mk A160
   clear A160
   simp only [Option.some.injEq, Prod.mk.injEq] at H
   obtain ⟨rfl, rfl⟩ := H
   go_enter Try.func36, Try.ntmps36
   go_wp2_with (first | ((with_reducible refine gd_ 2 rfl ?_); refine bv_ 2 #[.slice A0_0 l0_0.length c0_0] 29 ?_; intro gb163 hg w17 hbox hb; have BK163 := Aside0.mk (hbox); have GW163 := gw_ HB hg; have GE163 := gw_ HB hg; replace HB := Aside0.mk (below_step (be_ HB) hb); clear hb hbox hg) | ((with_reducible refine gd_ 4 rfl ?_); refine bv_ 4 #[.slice none 0 0] 29 ?_; intro gb164 hg w18 hbox hb; have BK164 := Aside0.mk (hbox); have GW164 := gw_ HB hg; have GE164 := gw_ HB hg; replace HB := Aside0.mk (below_step (bf_ HB) hb); have NB163_164 := nl_ BK163 hg; have NB164_163 := ng_ BK163 hg; replace BK163 := bb_ BK163 hb; clear hb hbox hg; have hnb19 := NB163_164.out; have hnc19 := NB164_163.out; obtain ⟨hcz20_0, hfz20_0⟩ := bz1_ BK163) | ((with_reducible refine gc_ 95 rfl ?_); refine gl_ 9 Try.func95 #[.agg #[.slice A0_0 l0_0.length c0_0], .int .i64 a1] ?_; (with_reducible refine (impl_Heap_place.calls _ _ l0_0 a1 t165 _ ?side1 ?side2 A3.out).mono ?_); (case side1 => repeat (first | exact (Kd.C_below HR0_0.out HB.out) | (with_reducible refine Kd.C_alloc ?_ _) | (with_reducible refine Kd.C_drewN ?_ _) | (with_reducible refine Kd.C_drew ?_))); (case side2 => exact HC0_0.out); rintro e w21 ⟨rfl, hb⟩; refine ⟨_, rfl, ?_⟩; replace BK163 := bb_ BK163 hb; replace BK164 := bb_ BK164 hb; replace HB := Aside0.mk (below_step (bf_ HB) hb); (try clear hb); (try clear hb2); (try clear hk); (try clear hi); obtain ⟨hcz22_0, hfz22_0⟩ := bz1_ BK163) | ((with_reducible refine gc_ 41 rfl ?_); refine gl_ 12 Try.func41 #[.agg #[.slice A0_0 l0_0.length c0_0]] ?_; (with_reducible refine (impl_HeapOk.calls k _ _ l0_0 true _ ?side1 ?side2 A4.out).mono ?_); (case side1 => repeat (first | exact (Kd.C_below HR0_0.out HB.out) | (with_reducible refine Kd.C_alloc ?_ _) | (with_reducible refine Kd.C_drewN ?_ _) | (with_reducible refine Kd.C_drew ?_))); (case side2 => exact HC0_0.out); rintro e w23 ⟨rfl, hb⟩; refine ⟨_, rfl, ?_⟩; replace BK163 := bb_ BK163 hb; replace BK164 := bb_ BK164 hb; replace HB := Aside0.mk (below_step (bf_ HB) hb); (try clear hb); (try clear hb2); (try clear hk); (try clear hi); obtain ⟨hcz24_0, hfz24_0⟩ := bz1_ BK163) | ((with_reducible refine gc_ 96 rfl ?_); refine gl_ 20 Try.func96 #[.agg #[.slice A0_0 l0_0.length c0_0]] ?_; (with_reducible refine (impl_copyHeap.calls _ _ l0_0 t167 _ ?side1 ?side2 A15.out).mono ?_); (case side1 => repeat (first | exact (Kd.C_below HR0_0.out HB.out) | (with_reducible refine Kd.C_alloc ?_ _) | (with_reducible refine Kd.C_drewN ?_ _) | (with_reducible refine Kd.C_drew ?_))); (case side2 => exact HC0_0.out); rintro e w25 ⟨v168, rfl, ho0, hb⟩; refine ⟨_, rfl, ?_⟩; have HO169 := Aside0.mk (Kd.R_lower ho0 (below_size (bf_ HB))); replace BK163 := bb_ BK163 hb; replace BK164 := bb_ BK164 hb; replace HB := Aside0.mk (below_step (bf_ HB) hb); (try clear hb); (try clear hb2); (try clear hk); (try clear hi); (try clear ho0); obtain ⟨Ao26, co26, eo26⟩ := Kd.R_slice HO169.out; subst eo26) | ((with_reducible refine gc_ 97 rfl ?_); refine gl_ 22 Try.func97 #[.agg #[.slice Ao26 t167.length co26], .int .i64 t165] ?_; (with_reducible refine (impl_Heap_remove.calls k (fun k_ => some k_ = (.slice Ao26 t167.length co26 : Value).ownBlock) (.slice Ao26 t167.length co26) t167 t165 t170 w _ ?side1 ?side2 A16.out).mono ?_); (case side1 => repeat (first | (with_reducible first | exact HB.out | apply below_alloc | apply pw_below_drewN | apply below_drew1 | refine below_set ?_ GE163.out | refine below_set ?_ GE164.out) | exact HB.out)); (case side2 => exact Kd.R_tight rfl HO169.out); rintro e w27 ⟨v171, rfl, ho0, hb, hkp⟩; refine ⟨_, rfl, ?_⟩; replace BK163 := Aside0.mk (blk_kept (bk_ BK163) hkp (fun hs_ => (fun e_ => (Kd.R_ne HO169.out BK163.out (by decide)) e_) hs_)); replace BK164 := Aside0.mk (blk_kept (bk_ BK164) hkp (fun hs_ => (fun e_ => (Kd.R_ne HO169.out BK164.out (by decide)) e_) hs_)); have HO172 := Aside0.mk (Kd.R_mono (ok' := fun k_ => True) ho0 (fun k_ hk_ => trivial)); replace HB := Aside0.mk (hb); clear HO169; (try clear hb); (try clear hkp); (try clear ho0); obtain ⟨Ao28, co28, eo28⟩ := Kd.R_slice HO172.out; subst eo28; obtain ⟨hcz29_0, hfz29_0⟩ := bz1_ BK164))
   refine bodyPost_ret (results_ct rfl _ _ gb164 29 #[.slice Ao28 t170.length co28] (0, 0) _ rfl (by (with_reducible repeat (first | refine blk_drewN ?_ _ | refine blk_drew ?_ | refine blk_alloc ?_ _)); refine blk_put (cs := #[.slice none 0 0]) ?_ 0 _ rfl; exact bk_ BK164) Try.underlying29 rfl (by kernel_rfl)) rfl ?_
   exact ⟨_, by first | rfl | (simp [errW_none, errW_some] <;> rfl) | (simp [*, errW_none, errW_some] <;> rfl), by (with_reducible repeat (first | apply Kd.R_alloc | apply Kd.R_drewN | apply Kd.R_drew)); exact Kd.R_mono (Kd.R_far (p := ⟨gb164, 0, none⟩) (Kd.R_types HO172.out BK164.out (by decide)) (fun _ hk => by first | exact hk.2 | grind) (.slice Ao28 t170.length co28)) (fun _ hk => by first | exact trivial | grind), bf_ HB⟩
 ·replace c5 := Bool.eq_false_iff.mpr c5
  subst c5
  rw [if_neg (show ¬ (false = true) by decide)] at H
  simp only [Option.some.injEq, Prod.mk.injEq] at H
  obtain ⟨rfl, rfl⟩ := H
  go_enter Try.func36, Try.ntmps36
  go_wp2_with (first | ((with_reducible refine gd_ 2 rfl ?_); refine bv_ 2 #[.slice A0_0 l0_0.length c0_0] 29 ?_; intro gb163 hg w30 hbox hb; have BK163 := Aside0.mk (hbox); have GW163 := gw_ HB hg; have GE163 := gw_ HB hg; replace HB := Aside0.mk (below_step (be_ HB) hb); clear hb hbox hg) | ((with_reducible refine gd_ 4 rfl ?_); refine bv_ 4 #[.slice none 0 0] 29 ?_; intro gb164 hg w31 hbox hb; have BK164 := Aside0.mk (hbox); have GW164 := gw_ HB hg; have GE164 := gw_ HB hg; replace HB := Aside0.mk (below_step (bf_ HB) hb); have NB163_164 := nl_ BK163 hg; have NB164_163 := ng_ BK163 hg; replace BK163 := bb_ BK163 hb; clear hb hbox hg; have hnb32 := NB163_164.out; have hnc32 := NB164_163.out; obtain ⟨hcz33_0, hfz33_0⟩ := bz1_ BK163) | ((with_reducible refine gc_ 95 rfl ?_); refine gl_ 9 Try.func95 #[.agg #[.slice A0_0 l0_0.length c0_0], .int .i64 a1] ?_; (with_reducible refine (impl_Heap_place.calls _ _ l0_0 a1 t165 _ ?side1 ?side2 A3.out).mono ?_); (case side1 => repeat (first | exact (Kd.C_below HR0_0.out HB.out) | (with_reducible refine Kd.C_alloc ?_ _) | (with_reducible refine Kd.C_drewN ?_ _) | (with_reducible refine Kd.C_drew ?_))); (case side2 => exact HC0_0.out); rintro e w34 ⟨rfl, hb⟩; refine ⟨_, rfl, ?_⟩; replace BK163 := bb_ BK163 hb; replace BK164 := bb_ BK164 hb; replace HB := Aside0.mk (below_step (bf_ HB) hb); (try clear hb); (try clear hb2); (try clear hk); (try clear hi); obtain ⟨hcz35_0, hfz35_0⟩ := bz1_ BK163) | ((with_reducible refine gc_ 41 rfl ?_); refine gl_ 12 Try.func41 #[.agg #[.slice A0_0 l0_0.length c0_0]] ?_; (with_reducible refine (impl_HeapOk.calls k _ _ l0_0 false _ ?side1 ?side2 A4.out).mono ?_); (case side1 => repeat (first | exact (Kd.C_below HR0_0.out HB.out) | (with_reducible refine Kd.C_alloc ?_ _) | (with_reducible refine Kd.C_drewN ?_ _) | (with_reducible refine Kd.C_drew ?_))); (case side2 => exact HC0_0.out); rintro e w36 ⟨rfl, hb⟩; refine ⟨_, rfl, ?_⟩; replace BK163 := bb_ BK163 hb; replace BK164 := bb_ BK164 hb; replace HB := Aside0.mk (below_step (bf_ HB) hb); (try clear hb); (try clear hb2); (try clear hk); (try clear hi); obtain ⟨hcz37_0, hfz37_0⟩ := bz1_ BK164))
  refine bodyPost_ret (results_ct rfl _ _ gb164 29 #[.slice none 0 0] (0, 0) _ rfl (by (with_reducible repeat (first | refine blk_drewN ?_ _ | refine blk_drew ?_ | refine blk_alloc ?_ _)); refine blk_put (cs := #[.slice none 0 0]) ?_ 0 _ rfl; exact bk_ BK164) Try.underlying29 rfl (by kernel_rfl)) rfl ?_
  exact ⟨_, by first | rfl | (simp [errW_none, errW_some] <;> rfl) | (simp [*, errW_none, errW_some] <;> rfl), by first | exact Kd.R_nil _ _ _ _ _ | exact Kd.N_nil _ _ _ _ _ | exact Kd.V_nil _ _ _ _ _ | exact Kd.Q_nil _ _ _ _ _ | exact Kd.S_nil _ _ _ _ _, bf_ HB⟩

/-! ### laws_big: function 38 -/
def laws_big.f (l0 : List Int) : Option (Bool) := some (decide ((l0.length : Int) > 1048576))
set_option maxHeartbeats 8000000 in
set_option maxRecDepth 100000 in
theorem laws_big.calls (A0 : Option Addr) (c0 : Nat) (l0 : List Int) (r : Bool) (w : World) (hr0 : Kd.C (Kd.int .u8) w A0 l0.length l0) (hc0 : l0.length ≤ c0) (h : laws_big.f l0 = some r) :
  Calls Try.prog 38 #[.slice A0 l0.length c0] w fun e w' => e = .returned (.bool r) ∧ Drawn0 w w' := by
 have HR0 := Aside0.mk hr0
 have HC0 := Aside0.mk hc0
 clear hr0 hc0
 have H := h
 clear h
 unfold laws_big.f at H
 obtain rfl := Option.some.inj H
 go_enter Try.func38, Try.ntmps38
 go_wp2
 go_ret
 exact ⟨by first | rfl | (simp; done) | (simp [*]; done), by repeat (first | exact Drawn0.refl _ | apply Drawn0.step)⟩

/-- A state of type 150 at block g of W; what its slices lead to came in by w0. -/
def IsS150 (w0 W : World) (g : Nat) (f0 : List Int) (f1 : Int) (f2 : Int) : Prop := ∃ A0 c0, W.heap[g]? = some (.cells #[.slice A0 f0.length c0, .int .i64 f1, .int .i64 f2] 150 (0, 0)) ∧ w0.heap.size ≤ g ∧ Kd.C (Kd.int .u8) w0 A0 f0.length f0
theorem IsS150.grown {w0 W : World} {g : Nat} {f0 : List Int} {f1 : Int} {f2 : Int} {W1 : World} {row : Option Nat} (h : IsS150 w0 W g f0 f1 f2) (hw : W.grownBy W1 row) (hne : some g ≠ row) : IsS150 w0 W1 g f0 f1 f2 := by
 obtain ⟨A0, c0, hb, hg, hr0⟩ := h
 exact ⟨A0, c0, blk_grown hb hw hne, hg, hr0⟩
theorem IsS150.own_neN {w0 W : World} {g : Nat} {f0 : List Int} {f1 : Int} {f2 : Int} {α : Type} {d : Kd α} {e : Nat} {base : Nat} {ok : Nat → Prop} {v : Value} {xs : List α} (h : IsS150 w0 W g f0 f1 f2) (ho : Kd.N d e W base ok v xs) (ht : e ≠ 150) : some g ≠ v.ownBlock := by
 obtain ⟨A0, c0, hb, hg, hr0⟩ := h
 exact Kd.N_ne ho hb ht
theorem IsS150.fresh {w0 W : World} {g : Nat} {f0 : List Int} {f1 : Int} {f2 : Int} (h : IsS150 w0 W g f0 f1 f2) : ∀ k, W.heap.size ≤ k → k ≠ g := by
 obtain ⟨A0, c0, hb, hg, hr0⟩ := h
 exact Kd.freshB hb
theorem IsS150.kept {w0 W : World} {g : Nat} {f0 : List Int} {f1 : Int} {f2 : Int} {W1 : World} {S : Nat → Prop} (h : IsS150 w0 W g f0 f1 f2) (hk : Kept W W1 S) (hne : ¬ S g) : IsS150 w0 W1 g f0 f1 f2 := by
 obtain ⟨A0, c0, hb, hg, hr0⟩ := h
 exact ⟨A0, c0, blk_kept hb hk hne, hg, hr0⟩
theorem IsS150.below {w0 W : World} {g : Nat} {f0 : List Int} {f1 : Int} {f2 : Int} {W1 : World} (h : IsS150 w0 W g f0 f1 f2) (hw : Below W.heap.size W W1) : IsS150 w0 W1 g f0 f1 f2 := h.grown (grown_of_below hw none) (by simp)
theorem IsS150.alloc {w0 W : World} {g : Nat} {f0 : List Int} {f1 : Int} {f2 : Int} (h : IsS150 w0 W g f0 f1 f2) (o : Obj) : IsS150 w0 (W.alloc o) g f0 f1 f2 := h.below (below_alloc (Below.refl _ _) o)
theorem IsS150.drewN {w0 W : World} {g : Nat} {f0 : List Int} {f1 : Int} {f2 : Int} (h : IsS150 w0 W g f0 f1 f2) (m : Nat) : IsS150 w0 (W.drewN m) g f0 f1 f2 := h
theorem IsS150.drew {w0 W : World} {g : Nat} {f0 : List Int} {f1 : Int} {f2 : Int} (h : IsS150 w0 W g f0 f1 f2) : IsS150 w0 W.drew g f0 f1 f2 := h
theorem IsS150.at_ {w0 W : World} {g : Nat} {f0 : List Int} {f1 : Int} {f2 : Int} {w' : World} {m : Nat} (hq : W.drewN m = w') (h : IsS150 w0 W g f0 f1 f2) : IsS150 w0 w' g f0 f1 f2 := by subst hq; exact IsS150.drewN h m
theorem IsS150.apart {w0 W : World} {g : Nat} {f0 : List Int} {f1 : Int} {f2 : Int} {α : Type} {d : Kd α} {e : Nat} {base : Nat} {ok : Nat → Prop} {v : Value} {xs : List α} (h : IsS150 w0 W g f0 f1 f2) (ho : d.R e W base ok v xs) (ht : ∀ q, q ∈ e :: d.E → q ≠ 150) : d.R e W base (fun k => ok k ∧ k ≠ g) v xs := by
 obtain ⟨A0, c0, hb, hg, hr0⟩ := h
 exact Kd.R_types ho hb ht
theorem IsS150.own_ne {w0 W : World} {g : Nat} {f0 : List Int} {f1 : Int} {f2 : Int} {α : Type} {d : Kd α} {e : Nat} {base : Nat} {ok : Nat → Prop} {v : Value} {xs : List α} (h : IsS150 w0 W g f0 f1 f2) (ho : d.R e W base ok v xs) (ht : e ≠ 150) : some g ≠ v.ownBlock := by
 obtain ⟨A0, c0, hb, hg, hr0⟩ := h
 exact Kd.R_ne ho hb ht
theorem IsS150.apartQ {w0 W : World} {g : Nat} {f0 : List Int} {f1 : Int} {f2 : Int} {α : Type} {d : Kd α} {e : Nat} {base : Nat} {ok : Nat → Prop} {v : Value} {xs : List α} (h : IsS150 w0 W g f0 f1 f2) (ho : d.Q e W base ok v xs) (ht : ∀ q, q ∈ e :: d.E → q ≠ 150) : d.Q e W base (fun k => ok k ∧ k ≠ g) v xs := by
 obtain ⟨A0, c0, hb, hg, hr0⟩ := h
 exact Kd.Q_types ho hb ht
theorem IsS150.own_neQ {w0 W : World} {g : Nat} {f0 : List Int} {f1 : Int} {f2 : Int} {α : Type} {d : Kd α} {e : Nat} {base : Nat} {ok : Nat → Prop} {v : Value} {xs : List α} (h : IsS150 w0 W g f0 f1 f2) (ho : d.Q e W base ok v xs) (ht : e ≠ 150) : some g ≠ v.ownBlock := by
 obtain ⟨A0, c0, hb, hg, hr0⟩ := h
 exact Kd.Q_ne ho hb ht
theorem IsS150.apartS {w0 W : World} {g : Nat} {f0 : List Int} {f1 : Int} {f2 : Int} {α : Type} {d : Kd α} {e : Nat} {base : Nat} {ok : Nat → Prop} {v : Value} {xs : List α} (h : IsS150 w0 W g f0 f1 f2) (ho : d.S e W base ok v xs) (ht : ∀ q, q ∈ e :: d.E → q ≠ 150) : d.S e W base (fun k => ok k ∧ k ≠ g) v xs := by
 obtain ⟨A0, c0, hb, hg, hr0⟩ := h
 exact Kd.S_types ho hb ht
theorem IsS150.own_neS {w0 W : World} {g : Nat} {f0 : List Int} {f1 : Int} {f2 : Int} {α : Type} {d : Kd α} {e : Nat} {base : Nat} {ok : Nat → Prop} {v : Value} {xs : List α} (h : IsS150 w0 W g f0 f1 f2) (ho : d.S e W base ok v xs) (ht : e ≠ 150) : some g ≠ v.ownBlock := by
 obtain ⟨A0, c0, hb, hg, hr0⟩ := h
 exact Kd.S_ne ho hb ht
theorem IsS150.lt {w0 W : World} {g : Nat} {f0 : List Int} {f1 : Int} {f2 : Int} (h : IsS150 w0 W g f0 f1 f2) : g < W.heap.size := by
 obtain ⟨A0, c0, hb, hg, hr0⟩ := h
 exact blk_lt hb
theorem IsS150.ge {w0 W : World} {g : Nat} {f0 : List Int} {f1 : Int} {f2 : Int} (h : IsS150 w0 W g f0 f1 f2) : w0.heap.size ≤ g := by
 obtain ⟨A0, c0, hb, hg, hr0⟩ := h
 exact hg
theorem IsS150.ne_blk {w0 W : World} {g : Nat} {f0 : List Int} {f1 : Int} {f2 : Int} {a : Nat} {cs : Array Value} {t : TypeId} {fr : Nat × Nat} (h : IsS150 w0 W g f0 f1 f2) (hb2 : W.heap[a]? = some (.cells cs t fr)) (ht : t ≠ 150) : g ≠ a := by
 obtain ⟨A0, c0, hb, hg, hr0⟩ := h
 rintro rfl
 rw [hb] at hb2
 injection hb2 with hb2
 injection hb2 with _ ht2
 exact ht ht2.symm
theorem IsS150.far {w0 W : World} {g : Nat} {f0 : List Int} {f1 : Int} {f2 : Int} {p : Addr} (h : IsS150 w0 W g f0 f1 f2) (hne : g ≠ p.block) (u : Value) : IsS150 w0 (W.setCell p u) g f0 f1 f2 := by
 obtain ⟨A0, c0, hb, hg, hr0⟩ := h
 exact ⟨A0, c0, blk_far hb hne u, hg, hr0⟩
theorem cellS150_0 {W : World} {g : Nat} {A0 : Option Addr} {c0 : Nat} {f0 : List Int} {f1 : Int} {f2 : Int} (h : W.heap[g]? = some (.cells #[.slice A0 f0.length c0, .int .i64 f1, .int .i64 f2] 150 (0, 0))) : W.cell? ⟨g, 0, none⟩ = some (.slice A0 f0.length c0) := (blk_cell h 0).trans rfl
theorem cellS150_1 {W : World} {g : Nat} {A0 : Option Addr} {c0 : Nat} {f0 : List Int} {f1 : Int} {f2 : Int} (h : W.heap[g]? = some (.cells #[.slice A0 f0.length c0, .int .i64 f1, .int .i64 f2] 150 (0, 0))) : W.cell? ⟨g, 1, none⟩ = some (.int .i64 f1) := (blk_cell h 1).trans rfl
theorem IsS150.set_1 {w0 W : World} {g : Nat} {f0 : List Int} {f1 : Int} {f2 : Int} (h : IsS150 w0 W g f0 f1 f2) (x : Int) : IsS150 w0 (W.setCell ⟨g, 1, none⟩ (.int .i64 x)) g f0 x f2 := by
 obtain ⟨A0, c0, hb, hg, hr0⟩ := h
 exact ⟨A0, c0, by simpa using blk_set hb 1 (.int .i64 x), hg, hr0⟩
theorem cellS150_2 {W : World} {g : Nat} {A0 : Option Addr} {c0 : Nat} {f0 : List Int} {f1 : Int} {f2 : Int} (h : W.heap[g]? = some (.cells #[.slice A0 f0.length c0, .int .i64 f1, .int .i64 f2] 150 (0, 0))) : W.cell? ⟨g, 2, none⟩ = some (.int .i64 f2) := (blk_cell h 2).trans rfl
theorem IsS150.set_2 {w0 W : World} {g : Nat} {f0 : List Int} {f1 : Int} {f2 : Int} (h : IsS150 w0 W g f0 f1 f2) (x : Int) : IsS150 w0 (W.setCell ⟨g, 2, none⟩ (.int .i64 x)) g f0 f1 x := by
 obtain ⟨A0, c0, hb, hg, hr0⟩ := h
 exact ⟨A0, c0, by simpa using blk_set hb 2 (.int .i64 x), hg, hr0⟩
theorem IsS150.new (w0 W : World) (A0 : Option Addr) (c0 : Nat) (f0 : List Int) (f1 : Int) (f2 : Int) (hB : Below w0.heap.size w0 W) (hr0 : Kd.C (Kd.int .u8) w0 A0 f0.length f0) : IsS150 w0 (W.alloc (.cells #[.slice A0 f0.length c0, .int .i64 f1, .int .i64 f2] 150)) W.heap.size f0 f1 f2 := ⟨A0, c0, by simpa using heap_alloc_new W _, hB.size, hr0⟩

/-! ### spec_l01Open: function 98 -/
def spec_l01Open.f (l0 : List Int) : Option (List Int × Int × Int) := some (l0, 0, 71 + ((l0.length : Int) % 1000))
set_option maxHeartbeats 8000000 in
set_option maxRecDepth 100000 in
theorem spec_l01Open.calls (A0 : Option Addr) (c0 : Nat) (l0 : List Int) (r1 : List Int) (r2 : Int) (r3 : Int) (w0 w : World) (hB : Below w0.heap.size w0 w) (hr0 : Kd.C (Kd.int .u8) w0 A0 l0.length l0) (hc0 : l0.length ≤ c0) (h : spec_l01Open.f l0 = some (r1, r2, r3)) :
  Calls Try.prog 98 #[.slice A0 l0.length c0] w fun e w' => ∃ g_ : Nat, e = .returned (.pointer (some ⟨g_, 0, none⟩)) ∧ IsS150 w0 w' g_ r1 r2 r3 ∧ Below w0.heap.size w0 w' ∧ Below w.heap.size w w' := by
 have hu150 := Try.underlying150
 have HR0 := Aside0.mk hr0
 have HC0 := Aside0.mk hc0
 clear hr0 hc0
 have HBW := Aside0.mk (Below.refl w.heap.size w)
 have HW0 := Aside0.mk hB.size
 have HB := Aside0.mk hB; clear hB
 have H := h
 clear h
 unfold spec_l01Open.f at H
 simp only [Option.some.injEq, Prod.mk.injEq] at H
 obtain ⟨rfl, rfl, rfl⟩ := H
 go_enter Try.func98, Try.ntmps98
 go_wp2_with (first | ((with_reducible refine gd_ 9 rfl ?_); refine bv_ 9 #[.slice A0 l0.length c0, .int .i64 0, .int .i64 (71 + ((l0.length : Int) % 1000))] 150 ?_; intro gb173 hg w2 hbox hb; replace HB := Aside0.mk (below_step (be_ HB) hb); have BK173 := Aside0.mk (hbox); have GW173 := gw_ HBW hg; have GE173 := Aside0.mk ((Nat.le_trans HW0.out (by rw [hg]; exact (below_size (be_ HBW)) : w.heap.size ≤ gb173) : w0.heap.size ≤ gb173)); replace HBW := Aside0.mk (below_step HBW.out hb); clear hb hbox hg))
 go_ret
 exact ⟨_, rfl, (show IsS150 w0 _ gb173 l0 0 (71 + ((l0.length : Int) % 1000)) from ⟨_, _, by (with_reducible repeat (first | refine blk_drewN ?_ _ | refine blk_drew ?_ | refine blk_alloc ?_ _)); exact BK173.out, GE173.out, HR0.out⟩), by repeat (first | (with_reducible first | exact HB.out | apply below_alloc | apply pw_below_drewN | apply below_drew1 | refine below_set ?_ GE173.out) | exact HB.out), by repeat (first | (with_reducible first | exact HBW.out | apply below_alloc | apply pw_below_drewN | apply below_drew1 | refine below_set ?_ GW173.out) | exact HBW.out)⟩

/-! ### spec_l01Cur_pick: function 111 -/
def spec_l01Cur_pick.f (s0_0 : List Int) (s0_1 : Int) (s0_2 : Int) (a1 : Int) : Option (Int × Int × Int) := if a1 < 2 then (some (0, s0_1, s0_2)) else (if s0_1 < (s0_0.length : Int) then (if 0 ≤ s0_1 then (if a1 = 0 then (none) else (some (Int.tmod (wrap64 (rd s0_0 s0_1)) a1, wrap64 (s0_1 + 1), s0_2))) else (none)) else (if (s0_0.length : Int) > 0 then (if (s0_0.length : Int) = 0 then (none) else (if 0 ≤ (Int.tmod s0_1 (s0_0.length : Int)) then (if (Int.tmod s0_1 (s0_0.length : Int)) < (s0_0.length : Int) then (if a1 = 0 then (none) else (some (Int.tmod (wrap64 ((wrap64 (Int.tdiv (Int.tmod (wrap64 ((wrap64 (s0_2 * 1103)) + 12345)) 65521) 7)) + (wrap64 (rd s0_0 (Int.tmod s0_1 (s0_0.length : Int)))))) a1, wrap64 (s0_1 + 1), Int.tmod (wrap64 ((wrap64 (s0_2 * 1103)) + 12345)) 65521))) else (none)) else (none))) else (if a1 = 0 then (none) else (some ((0 : Int) % a1, wrap64 (s0_1 + 1), Int.tmod (wrap64 ((wrap64 (s0_2 * 1103)) + 12345)) 65521)))))
set_option maxHeartbeats 8000000 in
set_option maxRecDepth 100000 in
theorem spec_l01Cur_pick.calls (g : Nat) (s0_0 : List Int) (s0_1 : Int) (s0_2 : Int) (a1 : Int) (r1 : Int) (r2 : Int) (r3 : Int) (w0 w : World) (hI : IsS150 w0 w g s0_0 s0_1 s0_2) (hB : Below w0.heap.size w0 w) (h : spec_l01Cur_pick.f s0_0 s0_1 s0_2 a1 = some (r1, r2, r3)) :
  Calls Try.prog 111 #[.pointer (some ⟨g, 0, none⟩), .int .i64 a1] w fun e w' => e = .returned (.int .i64 r1) ∧ IsS150 w0 w' g s0_0 r2 r3 ∧ Below w0.heap.size w0 w' ∧ KeepBut w w' g none := by
 have HI0 := Aside0.mk hI
 have HK := Aside0.mk (KeepBut.refl w g none)
 have HL := Aside0.mk hB.size
 clear hI
 have HW0 := Aside0.mk hB.size
 have HB := Aside0.mk hB; clear hB
 have H := h
 clear h
 unfold spec_l01Cur_pick.f at H
 by_cases c3 : a1 < 2
 ·rw [if_pos c3] at H
  have c3b0 : decide (a1 < 2) = true := decide_eq_true c3
  clear c3
  simp only [Option.some.injEq, Prod.mk.injEq] at H
  obtain ⟨rfl, rfl, rfl⟩ := H
  go_enter Try.func111, Try.ntmps111
  go_wp2
  repeat (go_quiet (fail); try go_wp2)
  go_ret
  exact ⟨by first | rfl | (simp [errW_none, errW_some] <;> rfl) | (simp [*, errW_none, errW_some] <;> rfl), by repeat (first | (with_reducible first | exact HI0.out | apply IsS150.alloc | apply IsS150.drewN | apply IsS150.drew | apply IsS150.set_1 | apply IsS150.set_2) | exact HI0.out), by repeat (first | (with_reducible first | exact HB.out | apply below_alloc | apply pw_below_drewN | apply below_drew1 | refine below_set ?_ (IsS150.ge HI0.out)) | exact HB.out), by repeat (first | (with_reducible first | exact HK.out | apply KeepBut.set_ | apply keep_drewN | apply keep_drew | apply keep_alloc) | exact HK.out)⟩
 ·rw [if_neg c3] at H
  have c3b0 : decide (a1 < 2) = false := decide_eq_false c3
  clear c3
  by_cases c4 : s0_1 < (s0_0.length : Int)
  ·rw [if_pos c4] at H
   have c4b0 : decide (s0_1 < (s0_0.length : Int)) = true := decide_eq_true c4
   clear c4
   by_cases c5 : 0 ≤ s0_1
   ·rw [if_pos c5] at H
    have c5b0 : decide (0 ≤ s0_1) = true := decide_eq_true c5
    clear c5
    by_cases c6 : a1 = 0
    ·rw [if_pos c6] at H
     exact absurd H (by simp)
    ·rw [if_neg c6] at H
     have c6b0 : (a1 == 0) = false := beq_eq_false_iff_ne.mpr c6
     have c6b1 : (a1 != 0) = true := bne_iff_ne.mpr c6
     simp only [Option.some.injEq, Prod.mk.injEq] at H
     obtain ⟨rfl, rfl, rfl⟩ := H
     obtain ⟨ASz7_0, cSz7_0, HGz7, hgz7, HSz7_0⟩ := HI0.out
     have hcz7_0 := cellS150_0 HGz7; have hcz7_1 := cellS150_1 HGz7; have hcz7_2 := cellS150_2 HGz7; have hfz7_1 := blk_frozen HGz7 1; have hfz7_2 := blk_frozen HGz7 2; clear HGz7 hgz7
     have p174 : 0 ≤ (s0_1 : Int) := od_
     have q174 : s0_1 < (s0_0.length : Int) := od_
     obtain ⟨ad174, e174, hx174_0⟩ := Kd.at_int HSz7_0 s0_1 p174 q174
     cases e174
     replace hx174_0 := pw_cell_below HB.out hx174_0
     replace p174 := eq_true p174
     replace q174 := eq_true q174
     go_enter Try.func111, Try.ntmps111
     go_wp2
     repeat (go_quiet (fail); try go_wp2)
     go_ret
     exact ⟨by first | rfl | (simp [errW_none, errW_some] <;> rfl) | (simp [*, errW_none, errW_some] <;> rfl), by repeat (first | (with_reducible first | exact HI0.out | apply IsS150.alloc | apply IsS150.drewN | apply IsS150.drew | apply IsS150.set_1 | apply IsS150.set_2) | exact HI0.out), by repeat (first | (with_reducible first | exact HB.out | apply below_alloc | apply pw_below_drewN | apply below_drew1 | refine below_set ?_ (IsS150.ge HI0.out)) | exact HB.out), by repeat (first | (with_reducible first | exact HK.out | apply KeepBut.set_ | apply keep_drewN | apply keep_drew | apply keep_alloc) | exact HK.out)⟩
   ·rw [if_neg c5] at H
    exact absurd H (by simp)
  ·rw [if_neg c4] at H
   have c4b0 : decide (s0_1 < (s0_0.length : Int)) = false := decide_eq_false c4
   clear c4
   by_cases c8 : (s0_0.length : Int) > 0
   ·rw [if_pos c8] at H
    have c8b0 : decide (0 < (s0_0.length : Int)) = true := decide_eq_true c8
    have c8b1 : decide (0 < s0_0.length) = true := decide_eq_true (by omega)
    clear c8
    by_cases c9 : (s0_0.length : Int) = 0
    ·rw [if_pos c9] at H
     exact absurd H (by simp)
    ·rw [if_neg c9] at H
     have c9b0 : ((s0_0.length : Int) == 0) = false := beq_eq_false_iff_ne.mpr c9
     have c9b1 : ((s0_0.length : Int) != 0) = true := bne_iff_ne.mpr c9
     have c9b2 : ¬ (s0_0 = []) := fun h_ => c9 (by rw [h_]; rfl)
     obtain ⟨ji10, hji10⟩ : ∃ j_ : Int, (Int.tmod s0_1 (s0_0.length : Int)) = j_ := ⟨_, rfl⟩
     replace H : (if 0 ≤ (ji10) then (if (ji10) < (s0_0.length : Int) then (if a1 = 0 then (none) else (some (Int.tmod (wrap64 ((wrap64 (Int.tdiv (Int.tmod (wrap64 ((wrap64 (s0_2 * 1103)) + 12345)) 65521) 7)) + (wrap64 (rd s0_0 (ji10))))) a1, wrap64 (s0_1 + 1), Int.tmod (wrap64 ((wrap64 (s0_2 * 1103)) + 12345)) 65521))) else (none)) else (none)) = some (r1, r2, r3) := by first | (rw [hji10] at H; exact H) | (simp only [hji10] at H ⊢; exact H)
     by_cases c11 : 0 ≤ (ji10)
     ·rw [if_pos c11] at H
      have c11b0 : decide (0 ≤ (ji10)) = true := decide_eq_true c11
      clear c11
      by_cases c12 : (ji10) < (s0_0.length : Int)
      ·rw [if_pos c12] at H
       have c12b0 : decide ((ji10) < (s0_0.length : Int)) = true := decide_eq_true c12
       clear c12
       by_cases c13 : a1 = 0
       ·rw [if_pos c13] at H
        exact absurd H (by simp)
       ·rw [if_neg c13] at H
        have c13b0 : (a1 == 0) = false := beq_eq_false_iff_ne.mpr c13
        have c13b1 : (a1 != 0) = true := bne_iff_ne.mpr c13
        simp only [Option.some.injEq, Prod.mk.injEq] at H
        obtain ⟨rfl, rfl, rfl⟩ := H
        obtain ⟨ASz14_0, cSz14_0, HGz14, hgz14, HSz14_0⟩ := HI0.out
        have hcz14_0 := cellS150_0 HGz14; have hcz14_1 := cellS150_1 HGz14; have hcz14_2 := cellS150_2 HGz14; have hfz14_1 := blk_frozen HGz14 1; have hfz14_2 := blk_frozen HGz14 2; clear HGz14 hgz14
        have p175 : 0 ≤ ((ji10) : Int) := od_
        have q175 : (ji10) < (s0_0.length : Int) := od_
        obtain ⟨ad175, e175, hx175_0⟩ := Kd.at_int HSz14_0 (ji10) p175 q175
        cases e175
        have hn175_0 : ad175.block ≠ g := Nat.ne_of_lt (Nat.lt_of_lt_of_le (by have := World.block_lt_of_cell? _ _ hx175_0; first | rwa [add_block] at this | exact this) (IsS150.ge HI0.out))
        replace hx175_0 := pw_cell_below HB.out hx175_0
        replace hx175_0 := (cell_far (p := ⟨g, 2, none⟩) (by first | (rw [add_block]; exact hn175_0) | (show (Addr.add _ _).block ≠ _; rw [add_block]; exact hn175_0) | exact hn175_0) (.int .i64 (Int.tmod (wrap64 ((wrap64 (s0_2 * 1103)) + 12345)) 65521))).trans hx175_0
        (try have hy175_0 := fun (n_ : Nat) => (show (((w.drewN n_).setCell ⟨g, 2, none⟩ (.int .i64 (Int.tmod (wrap64 ((wrap64 (s0_2 * 1103)) + 12345)) 65521)))).cell? _ = some _ from hx175_0))
        clear hn175_0
        replace p175 := eq_true p175
        replace q175 := eq_true q175
        go_enter Try.func111, Try.ntmps111
        go_wp2
        repeat (go_quiet (fail); try go_wp2)
        go_ret
        exact ⟨by first | rfl | (simp [errW_none, errW_some] <;> rfl) | (simp only [← hji10]; first | rfl | (simp [errW_none, errW_some] <;> rfl)) | (simp [*, errW_none, errW_some] <;> rfl), by repeat (first | (with_reducible first | exact HI0.out | apply IsS150.alloc | apply IsS150.drewN | apply IsS150.drew | apply IsS150.set_1 | apply IsS150.set_2) | exact HI0.out), by repeat (first | (with_reducible first | exact HB.out | apply below_alloc | apply pw_below_drewN | apply below_drew1 | refine below_set ?_ (IsS150.ge HI0.out)) | exact HB.out), by repeat (first | (with_reducible first | exact HK.out | apply KeepBut.set_ | apply keep_drewN | apply keep_drew | apply keep_alloc) | exact HK.out)⟩
      ·rw [if_neg c12] at H
       exact absurd H (by simp)
     ·rw [if_neg c11] at H
      exact absurd H (by simp)
   ·rw [if_neg c8] at H
    have c8b0 : decide (0 < (s0_0.length : Int)) = false := decide_eq_false c8
    have c8b1 : decide (0 < s0_0.length) = false := decide_eq_false (by omega)
    clear c8
    by_cases c15 : a1 = 0
    ·rw [if_pos c15] at H
     exact absurd H (by simp)
    ·rw [if_neg c15] at H
     have c15b0 : (a1 == 0) = false := beq_eq_false_iff_ne.mpr c15
     have c15b1 : (a1 != 0) = true := bne_iff_ne.mpr c15
     simp only [Option.some.injEq, Prod.mk.injEq] at H
     obtain ⟨rfl, rfl, rfl⟩ := H
     obtain ⟨ASz16_0, cSz16_0, HGz16, hgz16, HSz16_0⟩ := HI0.out
     have hcz16_0 := cellS150_0 HGz16; have hcz16_1 := cellS150_1 HGz16; have hcz16_2 := cellS150_2 HGz16; have hfz16_1 := blk_frozen HGz16 1; have hfz16_2 := blk_frozen HGz16 2; clear HGz16 hgz16
     go_enter Try.func111, Try.ntmps111
     go_wp2
     repeat (go_quiet (fail); try go_wp2)
     go_ret
     exact ⟨by first | rfl | (simp [errW_none, errW_some] <;> rfl) | (simp [*, errW_none, errW_some] <;> rfl), by repeat (first | (with_reducible first | exact HI0.out | apply IsS150.alloc | apply IsS150.drewN | apply IsS150.drew | apply IsS150.set_1 | apply IsS150.set_2) | exact HI0.out), by repeat (first | (with_reducible first | exact HB.out | apply below_alloc | apply pw_below_drewN | apply below_drew1 | refine below_set ?_ (IsS150.ge HI0.out)) | exact HB.out), by repeat (first | (with_reducible first | exact HK.out | apply KeepBut.set_ | apply keep_drewN | apply keep_drew | apply keep_alloc) | exact HK.out)⟩

/-! ### spec_l01Cur_raw: function 112 -/
def spec_l01Cur_raw.f (s0_0 : List Int) (s0_1 : Int) (s0_2 : Int) : Option (Int × Int × Int) := (spec_l01Cur_pick.f s0_0 s0_1 s0_2 8).bind fun bt176 => (if bt176.1 = 0 then ((spec_l01Cur_pick.f s0_0 bt176.2.1 bt176.2.2 256).bind fun bt179 => (some (wrap64 (bt179.1 - 128), bt179.2.1, bt179.2.2))) else (if bt176.1 = 1 then ((some (([9223372036854775807, (-9223372036854775808), 4611686018427387904, 65535, 65536, (-1000), 4294967295, 4294967296] : List Int) : List Int)).bind fun y182 => ((spec_l01Cur_pick.f s0_0 bt176.2.1 bt176.2.2 8).bind fun bt185 => (if 0 ≤ bt185.1 then (if bt185.1 < (y182.length : Int) then (some (rd y182 bt185.1, bt185.2.1, bt185.2.2)) else (none)) else (none)))) else ((spec_l01Cur_pick.f s0_0 bt176.2.1 bt176.2.2 14).bind fun bt189 => (some (wrap64 (bt189.1 - 3), bt189.2.1, bt189.2.2)))))
set_option maxHeartbeats 8000000 in
set_option maxRecDepth 100000 in
theorem spec_l01Cur_raw.calls (g : Nat) (s0_0 : List Int) (s0_1 : Int) (s0_2 : Int) (r1 : Int) (r2 : Int) (r3 : Int) (w0 w : World) (hI : IsS150 w0 w g s0_0 s0_1 s0_2) (hB : Below w0.heap.size w0 w) (h : spec_l01Cur_raw.f s0_0 s0_1 s0_2 = some (r1, r2, r3)) :
  Calls Try.prog 112 #[.pointer (some ⟨g, 0, none⟩)] w fun e w' => e = .returned (.int .i64 r1) ∧ IsS150 w0 w' g s0_0 r2 r3 ∧ Below w0.heap.size w0 w' ∧ KeepBut w w' g none := by
 have HI0 := Aside0.mk hI
 have HK := Aside0.mk (KeepBut.refl w g none)
 have HL := Aside0.mk hB.size
 clear hI
 have HW0 := Aside0.mk hB.size
 have HB := Aside0.mk hB; clear hB
 have H := h
 clear h
 unfold spec_l01Cur_raw.f at H
 replace H := Option.bind_eq_some_iff.mp H
 obtain ⟨⟨t176, t177, t178⟩, A20, H⟩ := H
 have A2 := Aside0.mk A20
 clear A20
 by_cases c3 : t176 = 0
 ·rw [if_pos c3] at H
  have c3b0 : (t176 == 0) = true := beq_iff_eq.mpr c3
  have c3b1 : (t176 != 0) = false := bne_eq_false_iff_eq.mpr c3
  clear c3
  replace H := Option.bind_eq_some_iff.mp H
  obtain ⟨⟨t179, t180, t181⟩, A40, H⟩ := H
  have A4 := Aside0.mk A40
  clear A40
  simp only [Option.some.injEq, Prod.mk.injEq] at H
  obtain ⟨rfl, rfl, rfl⟩ := H
  go_enter Try.func112, Try.ntmps112
  go_wp2_with (first | ((with_reducible refine gc_ 111 rfl ?_); refine gl_ 4 Try.func111 #[.pointer (some ⟨g, 0, none⟩), .int .i64 8] ?_; (with_reducible refine (spec_l01Cur_pick.calls g s0_0 s0_1 s0_2 8 t176 t177 t178 w0 _ ?side1 ?side2 A2.out).mono ?_); (case side1 => repeat (first | (with_reducible first | exact HI0.out | apply IsS150.alloc | apply IsS150.drewN | apply IsS150.drew | apply IsS150.set_1 | apply IsS150.set_2) | exact HI0.out)); (case side2 => repeat (first | (with_reducible first | exact HB.out | apply below_alloc | apply pw_below_drewN | apply below_drew1 | refine below_set ?_ (IsS150.ge HI0.out)) | exact HB.out)); rintro e w5 ⟨rfl, hi, hb, hk⟩; refine ⟨_, rfl, ?_⟩; replace HK := Aside0.mk (KeepBut.trans (by repeat (first | (with_reducible first | exact HK.out | apply KeepBut.set_ | apply keep_drewN | apply keep_drew | apply keep_alloc) | exact HK.out)) hk (.inl rfl)); replace HB := Aside0.mk (hb); replace HI0 := Aside0.mk (hi); (try clear hb); (try clear hb2); (try clear hk); (try clear hi)) | ((with_reducible refine gc_ 111 rfl ?_); refine gl_ 8 Try.func111 #[.pointer (some ⟨g, 0, none⟩), .int .i64 256] ?_; (with_reducible refine (spec_l01Cur_pick.calls g s0_0 t177 t178 256 t179 t180 t181 w0 _ ?side1 ?side2 A4.out).mono ?_); (case side1 => repeat (first | (with_reducible first | exact HI0.out | apply IsS150.alloc | apply IsS150.drewN | apply IsS150.drew | apply IsS150.set_1 | apply IsS150.set_2) | exact HI0.out)); (case side2 => repeat (first | (with_reducible first | exact HB.out | apply below_alloc | apply pw_below_drewN | apply below_drew1 | refine below_set ?_ (IsS150.ge HI0.out)) | exact HB.out)); rintro e w6 ⟨rfl, hi, hb, hk⟩; refine ⟨_, rfl, ?_⟩; replace HK := Aside0.mk (KeepBut.trans (by repeat (first | (with_reducible first | exact HK.out | apply KeepBut.set_ | apply keep_drewN | apply keep_drew | apply keep_alloc) | exact HK.out)) hk (.inl rfl)); replace HB := Aside0.mk (hb); replace HI0 := Aside0.mk (hi); (try clear hb); (try clear hb2); (try clear hk); (try clear hi)))
  go_ret
  exact ⟨by first | rfl | (simp [errW_none, errW_some] <;> rfl) | (simp [*, errW_none, errW_some] <;> rfl), by repeat (first | (with_reducible first | exact HI0.out | apply IsS150.alloc | apply IsS150.drewN | apply IsS150.drew | apply IsS150.set_1 | apply IsS150.set_2) | exact HI0.out), by repeat (first | (with_reducible first | exact HB.out | apply below_alloc | apply pw_below_drewN | apply below_drew1 | refine below_set ?_ (IsS150.ge HI0.out)) | exact HB.out), by repeat (first | (with_reducible first | exact HK.out | apply KeepBut.set_ | apply keep_drewN | apply keep_drew | apply keep_alloc) | exact HK.out)⟩
 ·rw [if_neg c3] at H
  have c3b0 : (t176 == 0) = false := beq_eq_false_iff_ne.mpr c3
  have c3b1 : (t176 != 0) = true := bne_iff_ne.mpr c3
  by_cases c7 : t176 = 1
  ·rw [if_pos c7] at H
   have c7b0 : (t176 == 1) = true := beq_iff_eq.mpr c7
   have c7b1 : (t176 != 1) = false := bne_eq_false_iff_eq.mpr c7
   clear c7
   obtain ⟨y182, hy182⟩ : ∃ y_ : List Int, y_ = (([9223372036854775807, (-9223372036854775808), 4611686018427387904, 65535, 65536, (-1000), 4294967295, 4294967296] : List Int)) := ⟨_, rfl⟩
   replace H : ((spec_l01Cur_pick.f s0_0 t177 t178 8).bind fun bt185 => (if 0 ≤ bt185.1 then (if bt185.1 < (y182.length : Int) then (some (rd y182 bt185.1, bt185.2.1, bt185.2.2)) else (none)) else (none))) = some (r1, r2, r3) := by first | (rw [hy182]; with_reducible exact H) | (have H2_ := (Option.bind_some _ _).symm.trans H; rw [hy182]; with_reducible exact H2_) | (have H2_ := (Option.bind_some _ _).symm.trans H; with_reducible exact H2_) | with_reducible exact H | (rw [hy182]; exact H) | exact H
   have Ny182 := Aside0.mk hy182
   clear hy182
   replace H := Option.bind_eq_some_iff.mp H
   obtain ⟨⟨t185, t186, t187⟩, A80, H⟩ := H
   have A8 := Aside0.mk A80
   clear A80
   by_cases c9 : 0 ≤ t185
   ·rw [if_pos c9] at H
    have c9b0 : decide (0 ≤ t185) = true := decide_eq_true c9
    clear c9
    by_cases c10 : t185 < (y182.length : Int)
    ·rw [if_pos c10] at H
     have c10b0 : decide (t185 < (y182.length : Int)) = true := decide_eq_true c10
     clear c10
     simp only [Option.some.injEq, Prod.mk.injEq] at H
     obtain ⟨rfl, rfl, rfl⟩ := H
     go_enter Try.func112, Try.ntmps112
     go_wp2_with (first | ((with_reducible refine gc_ 111 rfl ?_); refine gl_ 4 Try.func111 #[.pointer (some ⟨g, 0, none⟩), .int .i64 8] ?_; (with_reducible refine (spec_l01Cur_pick.calls g s0_0 s0_1 s0_2 8 t176 t177 t178 w0 _ ?side1 ?side2 A2.out).mono ?_); (case side1 => repeat (first | (with_reducible first | exact HI0.out | apply IsS150.alloc | apply IsS150.drewN | apply IsS150.drew | apply IsS150.set_1 | apply IsS150.set_2) | exact HI0.out)); (case side2 => repeat (first | (with_reducible first | exact HB.out | apply below_alloc | apply pw_below_drewN | apply below_drew1 | refine below_set ?_ (IsS150.ge HI0.out)) | exact HB.out)); rintro e w11 ⟨rfl, hi, hb, hk⟩; refine ⟨_, rfl, ?_⟩; replace HK := Aside0.mk (KeepBut.trans (by repeat (first | (with_reducible first | exact HK.out | apply KeepBut.set_ | apply keep_drewN | apply keep_drew | apply keep_alloc) | exact HK.out)) hk (.inl rfl)); replace HB := Aside0.mk (hb); replace HI0 := Aside0.mk (hi); (try clear hb); (try clear hb2); (try clear hk); (try clear hi)) | ((with_reducible refine gd_ 12 rfl ?_); refine Kd.R_lit (Kd.int .i64) _ 3 ?hg (N := 12) ?hd (xs := ([9223372036854775807, (-9223372036854775808), 4611686018427387904, 65535, 65536, (-1000), 4294967295, 4294967296] : List Int)) (inner := [.int .i64 9223372036854775807, .int .i64 (-9223372036854775808), .int .i64 4611686018427387904, .int .i64 65535, .int .i64 65536, .int .i64 (-1000), .int .i64 4294967295, .int .i64 4294967296]) (ok := fun _ => True) (okp := fun _ => True) ?hr ?hp (fun _ hk => by first | exact hk | grind) trivial (Below.refl _ _) (Nat.le_refl _) (by simp) ?_; (case hd => rfl); (case hg => rfl); (case hr => first | (go_simp; done) | (go_simp; rfl)); (case hp => exact (Reps.one (show Kd.M (Kd.int .i64) _ _ _ 9223372036854775807 [.int .i64 9223372036854775807] from rfl) (Reps.one (show Kd.M (Kd.int .i64) _ _ _ (-9223372036854775808) [.int .i64 (-9223372036854775808)] from rfl) (Reps.one (show Kd.M (Kd.int .i64) _ _ _ 4611686018427387904 [.int .i64 4611686018427387904] from rfl) (Reps.one (show Kd.M (Kd.int .i64) _ _ _ 65535 [.int .i64 65535] from rfl) (Reps.one (show Kd.M (Kd.int .i64) _ _ _ 65536 [.int .i64 65536] from rfl) (Reps.one (show Kd.M (Kd.int .i64) _ _ _ (-1000) [.int .i64 (-1000)] from rfl) (Reps.one (show Kd.M (Kd.int .i64) _ _ _ 4294967295 [.int .i64 4294967295] from rfl) (Reps.one (show Kd.M (Kd.int .i64) _ _ _ 4294967296 [.int .i64 4294967296] from rfl) (Reps.none _ _)))))))))); intro v183 w12 ho13 hb hg_ hnew_; clear hg_ hnew_; (first | rw [← Ny182.out] at ho13 | (simp only [Int.reduceToNat] at ho13; rw [← Ny182.out] at ho13)); have HO184 := Aside0.mk (Kd.R_lower ho13 (keep_size (w := w) (g := g) (row := none) (by repeat (first | (with_reducible first | exact HK.out | apply KeepBut.set_ | apply keep_drewN | apply keep_drew | apply keep_alloc) | exact HK.out)))); replace HK := Aside0.mk (KeepBut.trans (by repeat (first | (with_reducible first | exact HK.out | apply KeepBut.set_ | apply keep_drewN | apply keep_drew | apply keep_alloc) | exact HK.out)) (KeepBut.of_below hb g none) (.inl rfl)); replace HB := Aside0.mk (below_step (by repeat (first | (with_reducible first | exact HB.out | apply below_alloc | apply pw_below_drewN | apply below_drew1 | refine below_set ?_ (IsS150.ge HI0.out)) | exact HB.out)) hb); replace HI0 := Aside0.mk (IsS150.below (by repeat (first | (with_reducible first | exact HI0.out | apply IsS150.alloc | apply IsS150.drewN | apply IsS150.drew | apply IsS150.set_1 | apply IsS150.set_2) | exact HI0.out)) hb); clear hb ho13) | ((with_reducible refine gc_ 111 rfl ?_); refine gl_ 14 Try.func111 #[.pointer (some ⟨g, 0, none⟩), .int .i64 8] ?_; (with_reducible refine (spec_l01Cur_pick.calls g s0_0 t177 t178 8 t185 t186 t187 w0 _ ?side1 ?side2 A8.out).mono ?_); (case side1 => repeat (first | (with_reducible first | exact HI0.out | apply IsS150.alloc | apply IsS150.drewN | apply IsS150.drew | apply IsS150.set_1 | apply IsS150.set_2) | exact HI0.out)); (case side2 => repeat (first | (with_reducible first | exact HB.out | apply below_alloc | apply pw_below_drewN | apply below_drew1 | refine below_set ?_ (IsS150.ge HI0.out)) | exact HB.out)); rintro e w14 ⟨rfl, hi, hb, hk⟩; refine ⟨_, rfl, ?_⟩; replace HO184 := Aside0.mk (Kd.R_mono (Kd.R_keep (IsS150.apart (show IsS150 w0 _ g s0_0 t177 t178 from by repeat (first | (with_reducible first | exact HI0.out | apply IsS150.alloc | apply IsS150.drewN | apply IsS150.drew | apply IsS150.set_1 | apply IsS150.set_2) | exact HI0.out)) (kr_ HO184) (by decide)) hk (fun _ h => h.2)) (fun _ h => h.1)); replace HK := Aside0.mk (KeepBut.trans (by repeat (first | (with_reducible first | exact HK.out | apply KeepBut.set_ | apply keep_drewN | apply keep_drew | apply keep_alloc) | exact HK.out)) hk (.inl rfl)); replace HB := Aside0.mk (hb); replace HI0 := Aside0.mk (hi); (try clear hb); (try clear hb2); (try clear hk); (try clear hi); obtain ⟨Ao15, co15, eo15⟩ := Kd.R_slice HO184.out; subst eo15; have p188 : 0 ≤ (t185 : Int) := od_; have q188 : t185 < (y182.length : Int) := od_; obtain ⟨ad188, e188, hx188_0⟩ := Kd.at_int (Kd.R_reads' HO184.out).2.2 t185 p188 q188; cases e188; replace p188 := eq_true p188; replace q188 := eq_true q188))
     go_ret
     exact ⟨by first | rfl | (simp [errW_none, errW_some] <;> rfl) | (simp [*, errW_none, errW_some] <;> rfl), by repeat (first | (with_reducible first | exact HI0.out | apply IsS150.alloc | apply IsS150.drewN | apply IsS150.drew | apply IsS150.set_1 | apply IsS150.set_2) | exact HI0.out), by repeat (first | (with_reducible first | exact HB.out | apply below_alloc | apply pw_below_drewN | apply below_drew1 | refine below_set ?_ (IsS150.ge HI0.out)) | exact HB.out), by repeat (first | (with_reducible first | exact HK.out | apply KeepBut.set_ | apply keep_drewN | apply keep_drew | apply keep_alloc) | exact HK.out)⟩
    ·rw [if_neg c10] at H
     exact absurd H (by simp)
   ·rw [if_neg c9] at H
    exact absurd H (by simp)
  ·rw [if_neg c7] at H
   have c7b0 : (t176 == 1) = false := beq_eq_false_iff_ne.mpr c7
   have c7b1 : (t176 != 1) = true := bne_iff_ne.mpr c7
   replace H := Option.bind_eq_some_iff.mp H
   obtain ⟨⟨t189, t190, t191⟩, A160, H⟩ := H
   have A16 := Aside0.mk A160
   clear A160
   simp only [Option.some.injEq, Prod.mk.injEq] at H
   obtain ⟨rfl, rfl, rfl⟩ := H
   go_enter Try.func112, Try.ntmps112
   go_wp2_with (first | ((with_reducible refine gc_ 111 rfl ?_); refine gl_ 4 Try.func111 #[.pointer (some ⟨g, 0, none⟩), .int .i64 8] ?_; (with_reducible refine (spec_l01Cur_pick.calls g s0_0 s0_1 s0_2 8 t176 t177 t178 w0 _ ?side1 ?side2 A2.out).mono ?_); (case side1 => repeat (first | (with_reducible first | exact HI0.out | apply IsS150.alloc | apply IsS150.drewN | apply IsS150.drew | apply IsS150.set_1 | apply IsS150.set_2) | exact HI0.out)); (case side2 => repeat (first | (with_reducible first | exact HB.out | apply below_alloc | apply pw_below_drewN | apply below_drew1 | refine below_set ?_ (IsS150.ge HI0.out)) | exact HB.out)); rintro e w17 ⟨rfl, hi, hb, hk⟩; refine ⟨_, rfl, ?_⟩; replace HK := Aside0.mk (KeepBut.trans (by repeat (first | (with_reducible first | exact HK.out | apply KeepBut.set_ | apply keep_drewN | apply keep_drew | apply keep_alloc) | exact HK.out)) hk (.inl rfl)); replace HB := Aside0.mk (hb); replace HI0 := Aside0.mk (hi); (try clear hb); (try clear hb2); (try clear hk); (try clear hi)) | ((with_reducible refine gc_ 111 rfl ?_); refine gl_ 18 Try.func111 #[.pointer (some ⟨g, 0, none⟩), .int .i64 14] ?_; (with_reducible refine (spec_l01Cur_pick.calls g s0_0 t177 t178 14 t189 t190 t191 w0 _ ?side1 ?side2 A16.out).mono ?_); (case side1 => repeat (first | (with_reducible first | exact HI0.out | apply IsS150.alloc | apply IsS150.drewN | apply IsS150.drew | apply IsS150.set_1 | apply IsS150.set_2) | exact HI0.out)); (case side2 => repeat (first | (with_reducible first | exact HB.out | apply below_alloc | apply pw_below_drewN | apply below_drew1 | refine below_set ?_ (IsS150.ge HI0.out)) | exact HB.out)); rintro e w18 ⟨rfl, hi, hb, hk⟩; refine ⟨_, rfl, ?_⟩; replace HK := Aside0.mk (KeepBut.trans (by repeat (first | (with_reducible first | exact HK.out | apply KeepBut.set_ | apply keep_drewN | apply keep_drew | apply keep_alloc) | exact HK.out)) hk (.inl rfl)); replace HB := Aside0.mk (hb); replace HI0 := Aside0.mk (hi); (try clear hb); (try clear hb2); (try clear hk); (try clear hi)))
   go_ret
   exact ⟨by first | rfl | (simp [errW_none, errW_some] <;> rfl) | (simp [*, errW_none, errW_some] <;> rfl), by repeat (first | (with_reducible first | exact HI0.out | apply IsS150.alloc | apply IsS150.drewN | apply IsS150.drew | apply IsS150.set_1 | apply IsS150.set_2) | exact HI0.out), by repeat (first | (with_reducible first | exact HB.out | apply below_alloc | apply pw_below_drewN | apply below_drew1 | refine below_set ?_ (IsS150.ge HI0.out)) | exact HB.out), by repeat (first | (with_reducible first | exact HK.out | apply KeepBut.set_ | apply keep_drewN | apply keep_drew | apply keep_alloc) | exact HK.out)⟩

/-! ### spec_l01Cur_wide: function 156 -/
def spec_l01Cur_wide.f (s0_0 : List Int) (s0_1 : Int) (s0_2 : Int) (a1 : Int) : Option (Int × Int × Int) := (spec_l01Cur_pick.f s0_0 s0_1 s0_2 256).bind fun bt192 => ((spec_l01Cur_pick.f s0_0 bt192.2.1 bt192.2.2 256).bind fun bt195 => ((spec_l01Cur_pick.f s0_0 bt195.2.1 bt195.2.2 256).bind fun bt198 => (if a1 = 0 then (none) else (some (Int.tmod (wrap64 ((wrap64 ((wrap64 (65536 * bt192.1)) + (wrap64 (256 * bt195.1)))) + bt198.1)) a1, bt198.2.1, bt198.2.2)))))
set_option maxHeartbeats 8000000 in
set_option maxRecDepth 100000 in
theorem spec_l01Cur_wide.calls (g : Nat) (s0_0 : List Int) (s0_1 : Int) (s0_2 : Int) (a1 : Int) (r1 : Int) (r2 : Int) (r3 : Int) (w0 w : World) (hI : IsS150 w0 w g s0_0 s0_1 s0_2) (hB : Below w0.heap.size w0 w) (h : spec_l01Cur_wide.f s0_0 s0_1 s0_2 a1 = some (r1, r2, r3)) :
  Calls Try.prog 156 #[.pointer (some ⟨g, 0, none⟩), .int .i64 a1] w fun e w' => e = .returned (.int .i64 r1) ∧ IsS150 w0 w' g s0_0 r2 r3 ∧ Below w0.heap.size w0 w' ∧ KeepBut w w' g none := by
 have HI0 := Aside0.mk hI
 have HK := Aside0.mk (KeepBut.refl w g none)
 have HL := Aside0.mk hB.size
 clear hI
 have HW0 := Aside0.mk hB.size
 have HB := Aside0.mk hB; clear hB
 have H := h
 clear h
 unfold spec_l01Cur_wide.f at H
 replace H := Option.bind_eq_some_iff.mp H
 obtain ⟨⟨t192, t193, t194⟩, A30, H⟩ := H
 have A3 := Aside0.mk A30
 clear A30
 replace H := Option.bind_eq_some_iff.mp H
 obtain ⟨⟨t195, t196, t197⟩, A40, H⟩ := H
 have A4 := Aside0.mk A40
 clear A40
 replace H := Option.bind_eq_some_iff.mp H
 obtain ⟨⟨t198, t199, t200⟩, A50, H⟩ := H
 have A5 := Aside0.mk A50
 clear A50
 by_cases c6 : a1 = 0
 ·rw [if_pos c6] at H
  exact absurd H (by simp)
 ·rw [if_neg c6] at H
  have c6b0 : (a1 == 0) = false := beq_eq_false_iff_ne.mpr c6
  have c6b1 : (a1 != 0) = true := bne_iff_ne.mpr c6
  simp only [Option.some.injEq, Prod.mk.injEq] at H
  obtain ⟨rfl, rfl, rfl⟩ := H
  go_enter Try.func156, Try.ntmps156
  go_wp2_with (first | ((with_reducible refine gc_ 111 rfl ?_); refine gl_ 6 Try.func111 #[.pointer (some ⟨g, 0, none⟩), .int .i64 256] ?_; (with_reducible refine (spec_l01Cur_pick.calls g s0_0 s0_1 s0_2 256 t192 t193 t194 w0 _ ?side1 ?side2 A3.out).mono ?_); (case side1 => repeat (first | (with_reducible first | exact HI0.out | apply IsS150.alloc | apply IsS150.drewN | apply IsS150.drew | apply IsS150.set_1 | apply IsS150.set_2) | exact HI0.out)); (case side2 => repeat (first | (with_reducible first | exact HB.out | apply below_alloc | apply pw_below_drewN | apply below_drew1 | refine below_set ?_ (IsS150.ge HI0.out)) | exact HB.out)); rintro e w7 ⟨rfl, hi, hb, hk⟩; refine ⟨_, rfl, ?_⟩; replace HK := Aside0.mk (KeepBut.trans (by repeat (first | (with_reducible first | exact HK.out | apply KeepBut.set_ | apply keep_drewN | apply keep_drew | apply keep_alloc) | exact HK.out)) hk (.inl rfl)); replace HB := Aside0.mk (hb); replace HI0 := Aside0.mk (hi); (try clear hb); (try clear hb2); (try clear hk); (try clear hi)) | ((with_reducible refine gc_ 111 rfl ?_); refine gl_ 9 Try.func111 #[.pointer (some ⟨g, 0, none⟩), .int .i64 256] ?_; (with_reducible refine (spec_l01Cur_pick.calls g s0_0 t193 t194 256 t195 t196 t197 w0 _ ?side1 ?side2 A4.out).mono ?_); (case side1 => repeat (first | (with_reducible first | exact HI0.out | apply IsS150.alloc | apply IsS150.drewN | apply IsS150.drew | apply IsS150.set_1 | apply IsS150.set_2) | exact HI0.out)); (case side2 => repeat (first | (with_reducible first | exact HB.out | apply below_alloc | apply pw_below_drewN | apply below_drew1 | refine below_set ?_ (IsS150.ge HI0.out)) | exact HB.out)); rintro e w8 ⟨rfl, hi, hb, hk⟩; refine ⟨_, rfl, ?_⟩; replace HK := Aside0.mk (KeepBut.trans (by repeat (first | (with_reducible first | exact HK.out | apply KeepBut.set_ | apply keep_drewN | apply keep_drew | apply keep_alloc) | exact HK.out)) hk (.inl rfl)); replace HB := Aside0.mk (hb); replace HI0 := Aside0.mk (hi); (try clear hb); (try clear hb2); (try clear hk); (try clear hi)) | ((with_reducible refine gc_ 111 rfl ?_); refine gl_ 13 Try.func111 #[.pointer (some ⟨g, 0, none⟩), .int .i64 256] ?_; (with_reducible refine (spec_l01Cur_pick.calls g s0_0 t196 t197 256 t198 t199 t200 w0 _ ?side1 ?side2 A5.out).mono ?_); (case side1 => repeat (first | (with_reducible first | exact HI0.out | apply IsS150.alloc | apply IsS150.drewN | apply IsS150.drew | apply IsS150.set_1 | apply IsS150.set_2) | exact HI0.out)); (case side2 => repeat (first | (with_reducible first | exact HB.out | apply below_alloc | apply pw_below_drewN | apply below_drew1 | refine below_set ?_ (IsS150.ge HI0.out)) | exact HB.out)); rintro e w9 ⟨rfl, hi, hb, hk⟩; refine ⟨_, rfl, ?_⟩; replace HK := Aside0.mk (KeepBut.trans (by repeat (first | (with_reducible first | exact HK.out | apply KeepBut.set_ | apply keep_drewN | apply keep_drew | apply keep_alloc) | exact HK.out)) hk (.inl rfl)); replace HB := Aside0.mk (hb); replace HI0 := Aside0.mk (hi); (try clear hb); (try clear hb2); (try clear hk); (try clear hi)))
  go_ret
  exact ⟨by first | rfl | (simp [errW_none, errW_some] <;> rfl) | (simp [*, errW_none, errW_some] <;> rfl), by repeat (first | (with_reducible first | exact HI0.out | apply IsS150.alloc | apply IsS150.drewN | apply IsS150.drew | apply IsS150.set_1 | apply IsS150.set_2) | exact HI0.out), by repeat (first | (with_reducible first | exact HB.out | apply below_alloc | apply pw_below_drewN | apply below_drew1 | refine below_set ?_ (IsS150.ge HI0.out)) | exact HB.out), by repeat (first | (with_reducible first | exact HK.out | apply KeepBut.set_ | apply keep_drewN | apply keep_drew | apply keep_alloc) | exact HK.out)⟩

end Go.Proofs.Ytnklakficjpmoaa.PFnHeapBook
