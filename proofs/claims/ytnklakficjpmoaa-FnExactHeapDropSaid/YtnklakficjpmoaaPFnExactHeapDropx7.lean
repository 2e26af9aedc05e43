-- printed by a program of this session (wip/printx) out of the translation; Lean checks it
import Derived.Test.YtnklakficjpmoaaVFnExactHeapDrop
import Derived.Test.YtnklakficjpmoaaPFnExactHeapDropx0
import Derived.Test.YtnklakficjpmoaaPFnExactHeapDropx4
import Derived.Test.YtnklakficjpmoaaPFnExactHeapDropx5
import Derived.Test.YtnklakficjpmoaaPFnExactHeapDropx6
namespace Go.Proofs.Ytnklakficjpmoaa.PFnExactHeapDrop
open Go.RowKit Go.Proofs.YtnklakficjpmoaaW.PrintWords Go.Proofs.YtnklakficjpmoaaW.PrintLast Go.Proofs.YtnklakficjpmoaaW.PrintMore
attribute [local go_sem] max2_int min2_int max_two min_two max_three min_three max_four min_four   -- for this text's walks alone
set_option linter.unusedVariables false
set_option linter.unusedSimpArgs false

/-! ### impl_Heap_remove: function 97 -/
def impl_Heap_remove.f (k : Nat) (l0_0 : List (S68)) (a1 : Int) : Option ((List (S68))) := if 0 ≤ (wrap64 ((l0_0.length : Int) - 1)) then (if (wrap64 ((l0_0.length : Int) - 1)) < (l0_0.length : Int) then (if (wrap64 ((l0_0.length : Int) - 1)) ≤ (l0_0.length : Int) then ((some (l0_0.take ((wrap64 ((l0_0.length : Int) - 1)) : Int).toNat : List (S68))).bind fun y254 => (if a1 < (wrap64 ((l0_0.length : Int) - 1)) then (if 0 ≤ a1 then (if a1 < (y254.length : Int) then ((impl_Heap_up.f k (y254.set (a1 : Int).toNat (⟨(rd_T68 l0_0 (wrap64 ((l0_0.length : Int) - 1))).f0, (rd_T68 l0_0 (wrap64 ((l0_0.length : Int) - 1))).f1⟩ : S68)) a1).bind fun bt258 => ((impl_Heap_down.f k bt258.2 bt258.1).bind fun t260 => (some t260))) else (none)) else (none)) else (some y254))) else (none)) else (none)) else (none)
theorem impl_Heap_remove.mono : ∀ a0 a1 k, LeO (impl_Heap_remove.f k a0 a1) (impl_Heap_remove.f (k + 1) a0 a1) := by
 intro a0 a1 k
 unfold impl_Heap_remove.f
 repeat' (first | (with_reducible exact impl_Heap_down.mono _ _ _) | (with_reducible exact impl_Heap_up.mono _ _ _) | (with_reducible exact LeO.refl _) | (with_reducible exact LeO.none _) | (with_reducible refine LeO.ite ?_ ?_) | (with_reducible refine LeO.bind ?_ (fun _ => ?_)) | exact impl_Heap_down.mono _ _ _ | exact impl_Heap_up.mono _ _ _ | exact LeO.none _ | refine LeO.ite ?_ ?_ | refine LeO.bind ?_ (fun _ => ?_))
set_option maxHeartbeats 8000000 in
set_option maxRecDepth 100000 in
theorem impl_Heap_remove.calls (k : Nat) (P0_0_ : Nat → Prop) (u9000_ : Value) (l0_0 : List (S68)) (a1 : Int) (r : List (S68)) (w0 w : World) (hB : Below w0.heap.size w0 w) (ho0_0 : Kd.R k68 68 w w0.heap.size P0_0_ u9000_ l0_0) (h : impl_Heap_remove.f k l0_0 a1 = some r) :
  Calls Try.prog 97 #[.agg #[u9000_], .int .i64 a1] w fun e w' => ∃ v0_ : Value, e = .returned (.agg #[v0_]) ∧ Kd.R k68 68 w' w0.heap.size (fun k_ => (P0_0_ k_ ∨ w.heap.size ≤ k_)) v0_ r ∧ Below w0.heap.size w0 w' ∧ Kept w w' (fun k_ => P0_0_ k_) := by
 have hu29 := Try.underlying29; have hu68 := Try.underlying68
 have HO0_0 := Aside0.mk (show Kd.R k68 68 w w0.heap.size (fun k_ => (P0_0_ k_ ∨ w.heap.size ≤ k_)) u9000_ l0_0 from Kd.R_mono ho0_0 (fun k_ hk => by first | exact (.inl hk) | grind))
 have HK := Aside0.mk (Kept.refl w (fun k_ => P0_0_ k_))
 have HW0 := Aside0.mk hB.size
 have HB := Aside0.mk hB; clear hB
 have H := h
 clear h
 unfold impl_Heap_remove.f at H
 obtain ⟨ji3, hji3⟩ : ∃ j_ : Int, (wrap64 ((l0_0.length : Int) - 1)) = j_ := ⟨_, rfl⟩
 replace H : (if 0 ≤ (ji3) then (if (ji3) < (l0_0.length : Int) then (if (ji3) ≤ (l0_0.length : Int) then ((some (l0_0.take ((ji3) : Int).toNat : List (S68))).bind fun y254 => (if a1 < (ji3) then (if 0 ≤ a1 then (if a1 < (y254.length : Int) then ((impl_Heap_up.f k (y254.set (a1 : Int).toNat (⟨(rd_T68 l0_0 (ji3)).f0, (rd_T68 l0_0 (ji3)).f1⟩ : S68)) a1).bind fun bt258 => ((impl_Heap_down.f k bt258.2 bt258.1).bind fun t260 => (some t260))) else (none)) else (none)) else (some y254))) else (none)) else (none)) else (none)) = some r := by first | (rw [hji3] at H; exact H) | (simp only [hji3] at H ⊢; exact H)
 have hji3w : (IntKind.i64.wrap ((l0_0.length : Int) - 1)) = ji3 := (i64_w _).trans hji3
 by_cases c4 : 0 ≤ (ji3)
 ·rw [if_pos c4] at H
  have c4b0 : decide (0 ≤ (ji3)) = true := decide_eq_true c4
  clear c4
  by_cases c5 : (ji3) < (l0_0.length : Int)
  ·rw [if_pos c5] at H
   have c5b0 : decide ((ji3) < (l0_0.length : Int)) = true := decide_eq_true c5
   clear c5
   by_cases c6 : (ji3) ≤ (l0_0.length : Int)
   ·rw [if_pos c6] at H
    have c6b0 := eq_true c6
    have c6b1 : decide ((ji3) ≤ (l0_0.length : Int)) = true := decide_eq_true c6
    clear c6
    obtain ⟨y254, hy254⟩ : ∃ y_ : List (S68), y_ = (l0_0.take ((ji3) : Int).toNat) := ⟨_, rfl⟩
    replace H : (if a1 < (ji3) then (if 0 ≤ a1 then (if a1 < (y254.length : Int) then ((impl_Heap_up.f k (y254.set (a1 : Int).toNat (⟨(rd_T68 l0_0 (ji3)).f0, (rd_T68 l0_0 (ji3)).f1⟩ : S68)) a1).bind fun bt258 => ((impl_Heap_down.f k bt258.2 bt258.1).bind fun t260 => (some t260))) else (none)) else (none)) else (some y254)) = some r := by first | (rw [hy254]; with_reducible exact H) | (have H2_ := (Option.bind_some _ _).symm.trans H; rw [hy254]; with_reducible exact H2_) | (have H2_ := (Option.bind_some _ _).symm.trans H; with_reducible exact H2_) | with_reducible exact H | (rw [hy254]; exact H) | exact H
    have Ny254 := Aside0.mk hy254
    clear hy254
    by_cases c7 : a1 < (ji3)
    ·rw [if_pos c7] at H
     have c7b0 : decide (a1 < (ji3)) = true := decide_eq_true c7
     clear c7
     by_cases c8 : 0 ≤ a1
     ·rw [if_pos c8] at H
      have c8b0 : decide (0 ≤ a1) = true := decide_eq_true c8
      clear c8
      by_cases c9 : a1 < (y254.length : Int)
      ·rw [if_pos c9] at H
       have c9b0 : decide (a1 < (y254.length : Int)) = true := decide_eq_true c9
       clear c9
       obtain ⟨y257, hy257⟩ : ∃ y_ : List (S68), y_ = (y254.set (a1 : Int).toNat (⟨(rd_T68 l0_0 (ji3)).f0, (rd_T68 l0_0 (ji3)).f1⟩ : S68)) := ⟨_, rfl⟩
       replace H : ((impl_Heap_up.f k y257 a1).bind fun bt258 => ((impl_Heap_down.f k bt258.2 bt258.1).bind fun t260 => (some t260))) = some r := by first | (rw [hy257]; with_reducible exact H) | (have H2_ := (Option.bind_some _ _).symm.trans H; rw [hy257]; with_reducible exact H2_) | (have H2_ := (Option.bind_some _ _).symm.trans H; with_reducible exact H2_) | with_reducible exact H | (rw [hy257]; exact H) | exact H
       have Ny257 := Aside0.mk hy257
       clear hy257
       replace H := Option.bind_eq_some_iff.mp H
       obtain ⟨⟨t258, t259⟩, A110, H⟩ := H
       have A11 := Aside0.mk A110
       clear A110
       replace H := Option.bind_eq_some_iff.mp H
       obtain ⟨t260, A120, H⟩ := H
       have A12 := Aside0.mk A120
       clear A120
       obtain rfl := Option.some.inj H
       obtain ⟨Ao13, co13, eo13⟩ := Kd.R_slice HO0_0.out
       subst eo13
       go_enter Try.func97, Try.ntmps97
       try go_wp2_with (first | ((with_reducible refine gd_ 2 rfl ?_); refine bv_ 2 #[.slice Ao13 l0_0.length co13] 29 ?_; intro gb250 hg w14 hbox hb; replace HO0_0 := Aside0.mk (Kd.R_below (kr_ HO0_0) hb); have BK250 := Aside0.mk (hbox); have GW250 := Aside0.mk ((by rw [hg]; exact (by first | exact HK.out.1 | exact (show Kept w _ (fun k_ => P0_0_ k_) from by repeat (first | (with_reducible first | exact HK.out | apply Kept.alloc | apply Kept.drewN | apply Kept.drew) | exact HK.out)).1) : w.heap.size ≤ gb250)); replace HK := Aside0.mk (Kept.below (S := (fun k_ => P0_0_ k_)) (by repeat (first | (with_reducible first | exact HK.out | apply Kept.alloc | apply Kept.drewN | apply Kept.drew) | exact HK.out)) hb); have GE250 := Aside0.mk ((by rw [hg]; exact (below_size (be_ HB)) : w0.heap.size ≤ gb250)); replace HB := Aside0.mk (below_step (be_ HB) hb); clear hb hbox hg) | ((with_reducible refine gd_ 4 rfl ?_); refine bv_ 4 #[.slice none 0 0] 29 ?_; intro gb251 hg w15 hbox hb; replace HO0_0 := Aside0.mk (Kd.R_below (kr_ HO0_0) hb); have BK251 := Aside0.mk (hbox); have GW251 := Aside0.mk ((by rw [hg]; exact (by first | exact HK.out.1 | exact (show Kept w _ (fun k_ => P0_0_ k_) from by repeat (first | (with_reducible first | exact HK.out | apply Kept.alloc | apply Kept.drewN | apply Kept.drew | refine Kept.setCell ?_ (.inr GW250.out) _) | exact HK.out)).1) : w.heap.size ≤ gb251)); replace HK := Aside0.mk (Kept.below (S := (fun k_ => P0_0_ k_)) (by repeat (first | (with_reducible first | exact HK.out | apply Kept.alloc | apply Kept.drewN | apply Kept.drew | refine Kept.setCell ?_ (.inr GW250.out) _) | exact HK.out)) hb); have GE251 := Aside0.mk ((by rw [hg]; exact (below_size (bf_ HB)) : w0.heap.size ≤ gb251)); replace HB := Aside0.mk (below_step (bf_ HB) hb); have NB250_251 := nl_ BK250 hg; have NB251_250 := ng_ BK250 hg; replace BK250 := bb_ BK250 hb; clear hb hbox hg; have hnb16 := NB250_251.out; have hnc16 := NB251_250.out; obtain ⟨hcz17_0, hfz17_0⟩ := bz1_ BK250; have p252 : 0 ≤ ((ji3) : Int) := od_; have q252 : (ji3) < (l0_0.length : Int) := od_; obtain ⟨ad252, e252, hx252_0, hx252_1⟩ := at_T68 (Kd.R_reads' HO0_0.out).2.2 (ji3) p252 q252; cases e252; replace p252 := eq_true p252; replace q252 := eq_true q252) | ((with_reducible refine gd_ 6 rfl ?_); refine bv_ 6 #[.int .i64 0, .int .i64 0] 68 ?_; intro gb253 hg w18 hbox hb; replace HO0_0 := Aside0.mk (Kd.R_below (Kd.R_elderB (kr_ HO0_0) gb253 (Nat.le_of_eq hg.symm)) hb); have BK253 := Aside0.mk (hbox); have GW253 := Aside0.mk ((by rw [hg]; exact (by first | exact HK.out.1 | exact (show Kept w _ (fun k_ => P0_0_ k_) from by repeat (first | (with_reducible first | exact HK.out | apply Kept.alloc | apply Kept.drewN | apply Kept.drew | refine Kept.setCell ?_ (.inr GW250.out) _ | refine Kept.setCell ?_ (.inr GW251.out) _) | exact HK.out)).1) : w.heap.size ≤ gb253)); replace HK := Aside0.mk (Kept.below (S := (fun k_ => P0_0_ k_)) (by repeat (first | (with_reducible first | exact HK.out | apply Kept.alloc | apply Kept.drewN | apply Kept.drew | refine Kept.setCell ?_ (.inr GW250.out) _ | refine Kept.setCell ?_ (.inr GW251.out) _) | exact HK.out)) hb); have GE253 := Aside0.mk ((by rw [hg]; exact (below_size (bf_ HB)) : w0.heap.size ≤ gb253)); replace HB := Aside0.mk (below_step (bf_ HB) hb); have NB250_253 := nl_ BK250 hg; have NB253_250 := ng_ BK250 hg; replace BK250 := bb_ BK250 hb; have NB251_253 := nl_ BK251 hg; have NB253_251 := ng_ BK251 hg; replace BK251 := bb_ BK251 hb; clear hb hbox hg; have hnb19 := NB253_250.out; have hnc19 := NB250_253.out; have hnb20 := NB253_251.out; have hnc20 := NB251_253.out; obtain ⟨hcz21_0, hcz21_1, hfz21_0, hfz21_1⟩ := bz2_ BK253) | ((with_reducible refine gate_store (t := 68) (p := 6) rfl ?_); refine store_event (t := 68) (p := 6) (v := ?vo_w22) (w1 := ((w18.setCell ⟨gb253, 0, none⟩ (.int .i64 ((rd_T68 l0_0 (ji3)).f0))).setCell ⟨gb253, 1, none⟩ (.int .i64 ((rd_T68 l0_0 (ji3)).f1)))) ?hg ?ho ?hn ?hr ?_; (case ho => rfl); (case hg => rfl); (case hn => rfl); (case hr => first | (go_simp; done) | (go_simp; rfl)); intro w22 hw; have n0_ : Aside0 (Kd.R k68 68 w22 w0.heap.size (fun k_ => (P0_0_ k_ ∨ w.heap.size ≤ k_) ∧ k_ ≠ gb253) (.slice (some ad252) l0_0.length co13) l0_0) := ⟨(by rw [hw]; exact (by (with_reducible repeat (first | apply Kd.R_alloc | apply Kd.R_drewN | apply Kd.R_drew)); exact Kd.R_mono (Kd.R_far (p := ⟨gb253, 1, none⟩) (Kd.R_far (p := ⟨gb253, 0, none⟩) (Kd.R_mono (ok' := fun k_ => _ ∧ k_ ≠ gb253) HO0_0.out (fun k_ hk => by first | exact (⟨hk, hk.2⟩ : _ ∧ k_ ≠ gb253) | grind)) (fun _ hk => by first | exact hk.2 | grind) (.int .i64 ((rd_T68 l0_0 (ji3)).f0))) (fun _ hk => by first | exact hk.2 | grind) (.int .i64 ((rd_T68 l0_0 (ji3)).f1))) (fun _ hk => by first | exact ⟨hk.1.1, hk.1.2⟩ | grind)))⟩; have n1_ : Aside0 (w22.heap[gb250]? = some (.cells #[.slice (some ad252) l0_0.length co13] 29 (0, 0))) := ⟨(by rw [hw]; exact (bl_ BK250))⟩; have n2_ : Aside0 (w22.heap[gb251]? = some (.cells #[.slice none 0 0] 29 (0, 0))) := ⟨(by rw [hw]; exact (bl_ BK251))⟩; have n3_ : Aside0 (w22.heap[gb253]? = some (.cells #[.int .i64 ((rd_T68 l0_0 (ji3)).f0), .int .i64 ((rd_T68 l0_0 (ji3)).f1)] 68 (0, 0))) := ⟨(by rw [hw]; exact (by (with_reducible repeat (first | refine blk_drewN ?_ _ | refine blk_drew ?_ | refine blk_alloc ?_ _)); refine blk_put (cs := #[.int .i64 ((rd_T68 l0_0 (ji3)).f0), .int .i64 0]) ?_ 1 _ rfl; (with_reducible repeat (first | refine blk_drewN ?_ _ | refine blk_drew ?_ | refine blk_alloc ?_ _)); refine blk_put (cs := #[.int .i64 0, .int .i64 0]) ?_ 0 _ rfl; exact bk_ BK253))⟩; have n4_ : Aside0 (Kept w w22 (fun k_ => P0_0_ k_)) := ⟨(by rw [hw]; exact (by repeat (first | (with_reducible first | exact HK.out | apply Kept.alloc | apply Kept.drewN | apply Kept.drew | refine Kept.setCell ?_ (.inr GW250.out) _ | refine Kept.setCell ?_ (.inr GW251.out) _ | refine Kept.setCell ?_ (.inr GW253.out) _) | exact HK.out)))⟩; have n5_ : Aside0 (Below w0.heap.size w0 w22) := ⟨(by rw [hw]; exact (bf_ HB))⟩; clear hw HO0_0 BK250 BK251 BK253 HK HB; have HO0_0 := n0_; have BK250 := n1_; have BK251 := n2_; have BK253 := n3_; have HK := n4_; have HB := n5_; clear n0_ n1_ n2_ n3_ n4_ n5_; obtain ⟨hcz23_0, hfz23_0⟩ := bz1_ BK250; have q24 : ((ji3) : Int) ≤ ((l0_0.length : Int) : Int) := od_; obtain ⟨i024, hi024, _, hsz24, _⟩ := info_parts info68; have hcut24 := cut_to (P := Try.prog) 26 68 .i64 Try.underlying26 hi024 (some ad252) l0_0.length co13 (ji3) (od_) q24 (Kd.R_reads' HO0_0.out).2.1; have hr24 := Kd.R_take (m := ((ji3) : Int).toNat) HO0_0.out (by omega); have hy24 : y254.length = ((ji3) : Int).toNat := (by rw [Ny254.out, List.length_take]; omega); rw [← Ny254.out] at hr24; rw [← hy24] at hr24 hcut24; clear hy24 hi024 hsz24 HO0_0; have HO256 := Aside0.mk hr24; clear hr24; replace q24 := eq_true q24) | ((with_reducible refine gate_store (t := 26) (p := 20) rfl ?_); refine store_event (t := 26) (p := 20) (v := ?vo_w25) (w1 := (w22.setCell ⟨gb250, 0, none⟩ (.slice (some ad252) y254.length co13))) ?hg ?ho ?hn ?hr ?_; (case ho => rfl); (case hg => rfl); (case hn => rfl); (case hr => first | (go_simp; done) | (go_simp; rfl)); intro w25 hw; have n0_ : Aside0 (Kd.R k68 68 w25 w0.heap.size (fun k_ => (P0_0_ k_ ∨ w.heap.size ≤ k_) ∧ k_ ≠ gb253) (.slice (some ad252) y254.length co13) y254) := ⟨(by rw [hw]; exact (by (with_reducible repeat (first | apply Kd.R_alloc | apply Kd.R_drewN | apply Kd.R_drew)); exact Kd.R_mono (Kd.R_far (p := ⟨gb250, 0, none⟩) (Kd.R_types HO256.out BK250.out (by decide)) (fun _ hk => by first | exact hk.2 | grind) (.slice (some ad252) y254.length co13)) (fun _ hk => by first | exact ⟨hk.1.1, hk.1.2⟩ | grind)))⟩; have n1_ : Aside0 (w25.heap[gb250]? = some (.cells #[.slice (some ad252) y254.length co13] 29 (0, 0))) := ⟨(by rw [hw]; exact (by (with_reducible repeat (first | refine blk_drewN ?_ _ | refine blk_drew ?_ | refine blk_alloc ?_ _)); refine blk_put (cs := #[.slice (some ad252) l0_0.length co13]) ?_ 0 _ rfl; exact bk_ BK250))⟩; have n2_ : Aside0 (w25.heap[gb251]? = some (.cells #[.slice none 0 0] 29 (0, 0))) := ⟨(by rw [hw]; exact (bl_ BK251))⟩; have n3_ : Aside0 (w25.heap[gb253]? = some (.cells #[.int .i64 ((rd_T68 l0_0 (ji3)).f0), .int .i64 ((rd_T68 l0_0 (ji3)).f1)] 68 (0, 0))) := ⟨(by rw [hw]; exact (bl_ BK253))⟩; have n4_ : Aside0 (Kept w w25 (fun k_ => P0_0_ k_)) := ⟨(by rw [hw]; exact (by repeat (first | (with_reducible first | exact HK.out | apply Kept.alloc | apply Kept.drewN | apply Kept.drew | refine Kept.setCell ?_ (.inr GW250.out) _ | refine Kept.setCell ?_ (.inr GW251.out) _ | refine Kept.setCell ?_ (.inr GW253.out) _) | exact HK.out)))⟩; have n5_ : Aside0 (Below w0.heap.size w0 w25) := ⟨(by rw [hw]; exact (bf_ HB))⟩; clear hw HO256 BK250 BK251 BK253 HK HB; have HO256 := n0_; have BK250 := n1_; have BK251 := n2_; have BK253 := n3_; have HK := n4_; have HB := n5_; clear n0_ n1_ n2_ n3_ n4_ n5_; obtain ⟨hcz26_0, hfz26_0⟩ := bz1_ BK250; have hcz27_0 : w25.cell? ⟨gb253, 0, none⟩ = some (.int .i64 ((rd_T68 l0_0 (ji3)).f0)) := (blk_cell BK253.out 0).trans rfl; have hcz27_1 : w25.cell? ⟨gb253, 1, none⟩ = some (.int .i64 ((rd_T68 l0_0 (ji3)).f1)) := (blk_cell BK253.out 1).trans rfl; have hfz27_0 := blk_frozen BK253.out 0; have hfz27_1 := blk_frozen BK253.out 1; have p10 : 0 ≤ (a1 : Int) := od_; have q10 : (a1 : Int) < ((y254.length : Int) : Int) := od_; obtain ⟨go10, co10, eo10, gb10, gl10, cl10, HG10⟩ := Kd.R_form HO256.out (by omega); (first | cases eo10 | (injection eo10 with ea_ en_ ec_; (first | subst ea_ | (injection ea_ with ea_; subst ea_)); subst ec_; clear en_)); have GB10 := Aside0.mk gb10; have GG10 := Aside0.mk HG10; clear gb10 gl10 HG10; have HMgo10 := Aside0.mk (show (P0_0_ go10 ∨ w.heap.size ≤ go10) from (HO256.out.1 _ rfl).1); (first | simp only [add_plain] at hx252_0 | skip); (first | simp only [add_plain] at hx252_1 | skip); obtain ⟨ce10, hcl10, hM10, hcc10, hfr10⟩ := Kd.R_elem HO256.out z68 (a1 : Int) p10 q10; obtain rfl := k68_openM hM10; have hx10_0 : w25.cell? ⟨go10, (a1 : Int).toNat * 2, none⟩ = some (.int .i64 ((rd_T68 y254 a1).f0)) := hcc10 0 _ rfl; have hx10_1 : w25.cell? ⟨go10, (a1 : Int).toNat * 2 + 1, none⟩ = some (.int .i64 ((rd_T68 y254 a1).f1)) := hcc10 1 _ rfl; have hf10_0 : w25.frozen? ⟨go10, (a1 : Int).toNat * 2, none⟩ = false := hfr10 0; have hf10_1 : w25.frozen? ⟨go10, (a1 : Int).toNat * 2 + 1, none⟩ = false := hfr10 1; clear hcl10 hcc10 hfr10 hM10; replace p10 := eq_true p10; replace q10 := eq_true q10; have HX28 := Aside0.mk (show Kd.R k68 68 w25 w0.heap.size (fun k_ => (P0_0_ k_ ∨ w.heap.size ≤ k_) ∧ k_ ≠ gb253) (.slice (some ⟨go10, 0, none⟩) y254.length co13) y254 from (kr_ HO256)); obtain ⟨ce28, hcl28, hM28, hcc28, hfr28⟩ := Kd.R_elem HX28.out z68 (a1 : Int) (od_) (by have h_ : (a1 : Int) < ((y254.length : Int) : Int) := od_; first | exact h_ | (have e_ := (Kd.R_reads' HO256.out).1; omega) | simpa using h_); obtain rfl := k68_openM hM28; have HP28 := Kd.R_seg HX28.out (a1 : Int) (od_) (by have h_ : (a1 : Int) < ((y254.length : Int) : Int) := od_; first | exact h_ | (have e_ := (Kd.R_reads' HO256.out).1; omega) | simpa using h_) (seg := [.int .i64 ((rd_T68 l0_0 (ji3)).f0), .int .i64 ((rd_T68 l0_0 (ji3)).f1)]) (j := 0) hcl28 hcc28 (show 2 ≤ 2 from by decide) (x' := (⟨(rd_T68 l0_0 (ji3)).f0, (rd_T68 l0_0 (ji3)).f1⟩ : S68)) (k68_mkM _ _ _ (⟨(rd_T68 l0_0 (ji3)).f0, (rd_T68 l0_0 (ji3)).f1⟩ : S68) ) (fun _ hk => by first | exact hk | grind); have hx28_0 := hcc28 0 _ rfl; (try simp only [show (k68).sz = 2 from rfl, Nat.mul_one, Nat.add_zero] at hx28_0); have hf28_0 := hfr28 0; (try simp only [show (k68).sz = 2 from rfl, Nat.mul_one, Nat.add_zero] at hf28_0); have hx28_1 := hcc28 1 _ rfl; (try simp only [show (k68).sz = 2 from rfl, Nat.mul_one, Nat.add_zero] at hx28_1); have hf28_1 := hfr28 1; (try simp only [show (k68).sz = 2 from rfl, Nat.mul_one, Nat.add_zero] at hf28_1); clear hcl28 hcc28 hfr28 hM28) | ((with_reducible refine gate_store (t := 68) (p := 28) rfl ?_); refine store_event (t := 68) (p := 28) (v := ?vo_w29) (w1 := ((w25.setCell ⟨go10, (a1 : Int).toNat * 2, none⟩ (.int .i64 ((rd_T68 l0_0 (ji3)).f0))).setCell ⟨go10, (a1 : Int).toNat * 2 + 1, none⟩ (.int .i64 ((rd_T68 l0_0 (ji3)).f1)))) ?hg ?ho ?hn ?hr ?_; (case ho => rfl); (case hg => rfl); (case hn => rfl); (case hr => first | (go_simp; done) | (go_simp; rfl)); intro w29 hw; have hg : w25.grownBy w29 (some go10) := (by rw [hw]; exact HP28.2); have hp_ : Kd.R k68 68 w29 w0.heap.size (fun k_ => (P0_0_ k_ ∨ w.heap.size ≤ k_) ∧ k_ ≠ gb253) (.slice (some ⟨go10, 0, none⟩) y254.length co13) y257 := (by rw [hw, Ny257.out]; exact HP28.1); clear HP28; replace BK250 := Aside0.mk (blk_grown (g := gb250) (o := .cells #[.slice (some ⟨go10, 0, none⟩) y254.length co13] 29 (0, 0)) (bk_ BK250) hg (Kd.R_ne HO256.out BK250.out (by decide))); replace BK251 := Aside0.mk (blk_grown (g := gb251) (o := .cells #[.slice none 0 0] 29 (0, 0)) (bk_ BK251) hg (Kd.R_ne HO256.out BK251.out (by decide))); replace BK253 := Aside0.mk (blk_grown (g := gb253) (o := .cells #[.int .i64 ((rd_T68 l0_0 (ji3)).f0), .int .i64 ((rd_T68 l0_0 (ji3)).f1)] 68 (0, 0)) (bk_ BK253) hg (Kd.R_away HO256.out (fun _ hk => by first | exact hk.2 | grind))); replace HB := Aside0.mk ((by rw [hw]; exact below_set (below_set (HB.out) GB10.out) GB10.out : Below w0.heap.size w0 w29)); replace HK := Aside0.mk (Kept.of_grown (S := (fun k_ => P0_0_ k_)) hg (by repeat (first | (with_reducible first | exact HK.out | apply Kept.alloc | apply Kept.drewN | apply Kept.drew | refine Kept.setCell ?_ (.inr GW250.out) _ | refine Kept.setCell ?_ (.inr GW251.out) _ | refine Kept.setCell ?_ (.inr GW253.out) _) | exact HK.out)) (fun k_ e_ => (HO256.out.1 k_ e_).1)); replace HO256 := Aside0.mk (hp_); clear hg hw hp_))
       have n0_ := Aside0.mk (Kd.R_drew HO256.out); have n1_ := Aside0.mk (blk_drew BK250.out); have n2_ := Aside0.mk (blk_drew BK251.out); have n3_ := Aside0.mk (blk_drew BK253.out); have n4_ := Aside0.mk (Kept.drew HK.out); have n5_ := Aside0.mk (below_drew1 HB.out); clear HO256 BK250 BK251 BK253 HK HB; have HO256 := n0_; have BK250 := n1_; have BK251 := n2_; have BK253 := n3_
       have HK := n4_
       have HB := n5_; clear n0_ n1_ n2_ n3_ n4_ n5_
       refine start_ (n := 5) (S := fun w' => cw_ w' gb250 0 (.slice (some ⟨go10, 0, none⟩) y254.length co13)) (ds := []) (bs 5 0) (by kernel_rfl) rfl rfl ((blk_cell BK250.out 0).trans rfl) (fun hHeld => ?_)
       generalize w29.drew = w30 at HO256 BK250 BK251 BK253 HK HB hHeld ⊢
       refine ps0_ 2 31 #[oF,oF,oT,oF,oF] ?_
       refine tk0_ 0 29 #[oT,oF,oT,oF,oF] hHeld ?_
       refine tk0_ 1 30 (bs 5 3) hHeld ?_
       refine on0_ 3 (some 32) (bs 5 4) (fun K hK => ?_)
       refine gs_ Try.func102 #[.agg #[.slice (some ⟨go10, 0, none⟩) y254.length co13], .int .i64 a1] ?_
       with_reducible refine (impl_Heap_up.calls k (fun k_ => some k_ = (.slice (some ⟨go10, 0, none⟩) y254.length co13 : Value).ownBlock) (.slice (some ⟨go10, 0, none⟩) y254.length co13) y257 a1 t258 t259 w0 _ ?side1 ?side2 A11.out).mono ?_
       (case side1 => repeat (first | (with_reducible first | exact HB.out | apply below_alloc | apply pw_below_drewN | apply below_drew1 | refine below_set ?_ GE250.out | refine below_set ?_ GE251.out | refine below_set ?_ GE253.out) | exact HB.out))
       (case side2 => exact Kd.R_tight rfl HO256.out)
       rintro e w31 ⟨rfl, hy0, hb, hkp⟩
       refine ⟨_, rfl, ?_⟩
       have n0_ := Aside0.mk (Kd.R_reok rfl hy0 (fun k_ e_ => HO256.out.1 k_ e_))
       have n1_ := Aside0.mk (blk_kept (bk_ BK250) hkp (fun hs_ => (fun e_ => (Kd.R_ne HO256.out BK250.out (by decide)) e_) hs_))
       have n2_ := Aside0.mk (blk_kept (bk_ BK251) hkp (fun hs_ => (fun e_ => (Kd.R_ne HO256.out BK251.out (by decide)) e_) hs_))
       have n3_ := Aside0.mk (blk_kept (bk_ BK253) hkp (fun hs_ => (fun e_ => (Kd.R_away HO256.out (fun _ hk => by first | exact hk.2 | grind)) e_) hs_))
       have n4_ := Aside0.mk (Kept.then_ (S := (fun k_ => P0_0_ k_)) (by repeat (first | (with_reducible first | exact HK.out | apply Kept.alloc | apply Kept.drewN | apply Kept.drew | refine Kept.setCell ?_ (.inr GW250.out) _ | refine Kept.setCell ?_ (.inr GW251.out) _ | refine Kept.setCell ?_ (.inr GW253.out) _) | exact HK.out)) hkp (fun k_ hs_ => (fun e_ => (HO256.out.1 k_ e_.symm).1) hs_))
       have n5_ := Aside0.mk (hb); clear HO256 BK250 BK251 BK253 HK HB; have HO256 := n0_; have BK250 := n1_; have BK251 := n2_; have BK253 := n3_
       have HK := n4_
       have HB := n5_; clear n0_ n1_ n2_ n3_ n4_ n5_; (try clear hb); (try clear hkp); (try clear hy0)
       refine hK.out _ _ ((blk_cell BK250.out 0).trans rfl) (fun hHeld => ?_)
       clear hK K
       refine norm_ (a' := ?_) ?_ ?_
       rotate_left
       ·show Act.put _ (some 32) _ = _
        simp only [Act.put, ls0_, ls1_, ls2_, i64_w, i32_w]
        rfl
       refine on0_ 4 (some 33) (bs 5 5) (fun K hK => ?_)
       refine gs_ Try.func103 #[.agg #[.slice (some ⟨go10, 0, none⟩) y254.length co13], .int .i64 t258] ?_
       with_reducible refine (impl_Heap_down.calls k (fun k_ => some k_ = (.slice (some ⟨go10, 0, none⟩) y254.length co13 : Value).ownBlock) (.slice (some ⟨go10, 0, none⟩) y254.length co13) t259 t258 t260 w0 _ ?side1 ?side2 A12.out).mono ?_
       (case side1 => repeat (first | (with_reducible first | exact HB.out | apply below_alloc | apply pw_below_drewN | apply below_drew1 | refine below_set ?_ GE250.out | refine below_set ?_ GE251.out | refine below_set ?_ GE253.out) | exact HB.out))
       (case side2 => exact Kd.R_tight rfl HO256.out)
       rintro e w32 ⟨rfl, hy0, hb, hkp⟩
       refine ⟨_, rfl, ?_⟩
       have n0_ := Aside0.mk (Kd.R_reok rfl hy0 (fun k_ e_ => HO256.out.1 k_ e_))
       have n1_ := Aside0.mk (blk_kept (bk_ BK250) hkp (fun hs_ => (fun e_ => (Kd.R_ne HO256.out BK250.out (by decide)) e_) hs_))
       have n2_ := Aside0.mk (blk_kept (bk_ BK251) hkp (fun hs_ => (fun e_ => (Kd.R_ne HO256.out BK251.out (by decide)) e_) hs_))
       have n3_ := Aside0.mk (blk_kept (bk_ BK253) hkp (fun hs_ => (fun e_ => (Kd.R_away HO256.out (fun _ hk => by first | exact hk.2 | grind)) e_) hs_))
       have n4_ := Aside0.mk (Kept.then_ (S := (fun k_ => P0_0_ k_)) (by repeat (first | (with_reducible first | exact HK.out | apply Kept.alloc | apply Kept.drewN | apply Kept.drew | refine Kept.setCell ?_ (.inr GW250.out) _ | refine Kept.setCell ?_ (.inr GW251.out) _ | refine Kept.setCell ?_ (.inr GW253.out) _) | exact HK.out)) hkp (fun k_ hs_ => (fun e_ => (HO256.out.1 k_ e_.symm).1) hs_))
       have n5_ := Aside0.mk (hb); clear HO256 BK250 BK251 BK253 HK HB; have HO256 := n0_; have BK250 := n1_; have BK251 := n2_; have BK253 := n3_
       have HK := n4_
       have HB := n5_; clear n0_ n1_ n2_ n3_ n4_ n5_; (try clear hb); (try clear hkp); (try clear hy0)
       refine hK.out _ _ ((blk_cell BK250.out 0).trans rfl) (fun hHeld => ?_)
       clear hK K
       refine norm_ (a' := ?_) ?_ ?_
       rotate_left
       ·show Act.put _ (some 33) _ = _
        simp only [Act.put, ls0_, ls1_, ls2_, i64_w, i32_w]
        rfl
       refine done_ (by kernel_rfl) ?_
       have hcz33_0 := bc_ BK250 0 (.slice (some ⟨go10, 0, none⟩) y254.length co13) rfl
       have hfz33_0 := blk_frozen BK250.out 0; obtain ⟨hcz34_0, hfz34_0⟩ := bz1_ BK251
       try go_wp2
       refine bodyPost_ret (results_cell_row rfl _ _ gb251 29 #[.slice (some ⟨go10, 0, none⟩) y254.length co13] (0, 0) _ rfl (by (with_reducible repeat (first | refine blk_drewN ?_ _ | refine blk_drew ?_ | refine blk_alloc ?_ _)); refine blk_put (cs := #[.slice none 0 0]) ?_ 0 _ rfl; exact bk_ BK251) Try.underlying29 rfl (by kernel_rfl)) rfl ?_
       exact ⟨_, by first | rfl | (simp [errW_none, errW_some] <;> rfl) | (simp only [← hji3]; first | rfl | (simp [errW_none, errW_some] <;> rfl)) | (simp [*, errW_none, errW_some] <;> rfl), by (with_reducible repeat (first | apply Kd.R_alloc | apply Kd.R_drewN | apply Kd.R_drew)); exact Kd.R_mono (Kd.R_far (p := ⟨gb251, 0, none⟩) (Kd.R_types HO256.out BK251.out (by decide)) (fun _ hk => by first | exact hk.2 | grind) (.slice (some ⟨go10, 0, none⟩) y254.length co13)) (fun _ hk => by first | exact hk.1.1 | grind), by repeat (first | (with_reducible first | exact HB.out | apply below_alloc | apply pw_below_drewN | apply below_drew1 | refine below_set ?_ GE250.out | refine below_set ?_ GE251.out | refine below_set ?_ GE253.out) | exact HB.out), by repeat (first | (with_reducible first | exact HK.out | apply Kept.alloc | apply Kept.drewN | apply Kept.drew | refine Kept.setCell ?_ (.inr GW250.out) _ | refine Kept.setCell ?_ (.inr GW251.out) _ | refine Kept.setCell ?_ (.inr GW253.out) _) | exact HK.out)⟩
      ·rw [if_neg c9] at H
       exact absurd H (by simp)
     ·rw [if_neg c8] at H
      exact absurd H (by simp)
    ·rw [if_neg c7] at H
     have c7b0 : decide (a1 < (ji3)) = false := decide_eq_false c7
     clear c7
     obtain rfl := Option.some.inj H
     obtain ⟨Ao35, co35, eo35⟩ := Kd.R_slice HO0_0.out
     subst eo35
     go_enter Try.func97, Try.ntmps97
     go_wp2_with (first | ((with_reducible refine gd_ 2 rfl ?_); refine bv_ 2 #[.slice Ao35 l0_0.length co35] 29 ?_; intro gb250 hg w36 hbox hb; replace HO0_0 := Aside0.mk (Kd.R_below (kr_ HO0_0) hb); have BK250 := Aside0.mk (hbox); have GW250 := Aside0.mk ((by rw [hg]; exact (by first | exact HK.out.1 | exact (show Kept w _ (fun k_ => P0_0_ k_) from by repeat (first | (with_reducible first | exact HK.out | apply Kept.alloc | apply Kept.drewN | apply Kept.drew) | exact HK.out)).1) : w.heap.size ≤ gb250)); replace HK := Aside0.mk (Kept.below (S := (fun k_ => P0_0_ k_)) (by repeat (first | (with_reducible first | exact HK.out | apply Kept.alloc | apply Kept.drewN | apply Kept.drew) | exact HK.out)) hb); have GE250 := Aside0.mk ((by rw [hg]; exact (below_size (be_ HB)) : w0.heap.size ≤ gb250)); replace HB := Aside0.mk (below_step (be_ HB) hb); clear hb hbox hg) | ((with_reducible refine gd_ 4 rfl ?_); refine bv_ 4 #[.slice none 0 0] 29 ?_; intro gb251 hg w37 hbox hb; replace HO0_0 := Aside0.mk (Kd.R_below (kr_ HO0_0) hb); have BK251 := Aside0.mk (hbox); have GW251 := Aside0.mk ((by rw [hg]; exact (by first | exact HK.out.1 | exact (show Kept w _ (fun k_ => P0_0_ k_) from by repeat (first | (with_reducible first | exact HK.out | apply Kept.alloc | apply Kept.drewN | apply Kept.drew | refine Kept.setCell ?_ (.inr GW250.out) _) | exact HK.out)).1) : w.heap.size ≤ gb251)); replace HK := Aside0.mk (Kept.below (S := (fun k_ => P0_0_ k_)) (by repeat (first | (with_reducible first | exact HK.out | apply Kept.alloc | apply Kept.drewN | apply Kept.drew | refine Kept.setCell ?_ (.inr GW250.out) _) | exact HK.out)) hb); have GE251 := Aside0.mk ((by rw [hg]; exact (below_size (bf_ HB)) : w0.heap.size ≤ gb251)); replace HB := Aside0.mk (below_step (bf_ HB) hb); have NB250_251 := nl_ BK250 hg; have NB251_250 := ng_ BK250 hg; replace BK250 := bb_ BK250 hb; clear hb hbox hg; have hnb38 := NB250_251.out; have hnc38 := NB251_250.out; obtain ⟨hcz39_0, hfz39_0⟩ := bz1_ BK250; have p252 : 0 ≤ ((ji3) : Int) := od_; have q252 : (ji3) < (l0_0.length : Int) := od_; obtain ⟨ad252, e252, hx252_0, hx252_1⟩ := at_T68 (Kd.R_reads' HO0_0.out).2.2 (ji3) p252 q252; cases e252; replace p252 := eq_true p252; replace q252 := eq_true q252) | ((with_reducible refine gd_ 6 rfl ?_); refine bv_ 6 #[.int .i64 0, .int .i64 0] 68 ?_; intro gb253 hg w40 hbox hb; replace HO0_0 := Aside0.mk (Kd.R_below (Kd.R_elderB (kr_ HO0_0) gb253 (Nat.le_of_eq hg.symm)) hb); have BK253 := Aside0.mk (hbox); have GW253 := Aside0.mk ((by rw [hg]; exact (by first | exact HK.out.1 | exact (show Kept w _ (fun k_ => P0_0_ k_) from by repeat (first | (with_reducible first | exact HK.out | apply Kept.alloc | apply Kept.drewN | apply Kept.drew | refine Kept.setCell ?_ (.inr GW250.out) _ | refine Kept.setCell ?_ (.inr GW251.out) _) | exact HK.out)).1) : w.heap.size ≤ gb253)); replace HK := Aside0.mk (Kept.below (S := (fun k_ => P0_0_ k_)) (by repeat (first | (with_reducible first | exact HK.out | apply Kept.alloc | apply Kept.drewN | apply Kept.drew | refine Kept.setCell ?_ (.inr GW250.out) _ | refine Kept.setCell ?_ (.inr GW251.out) _) | exact HK.out)) hb); have GE253 := Aside0.mk ((by rw [hg]; exact (below_size (bf_ HB)) : w0.heap.size ≤ gb253)); replace HB := Aside0.mk (below_step (bf_ HB) hb); have NB250_253 := nl_ BK250 hg; have NB253_250 := ng_ BK250 hg; replace BK250 := bb_ BK250 hb; have NB251_253 := nl_ BK251 hg; have NB253_251 := ng_ BK251 hg; replace BK251 := bb_ BK251 hb; clear hb hbox hg; have hnb41 := NB253_250.out; have hnc41 := NB250_253.out; have hnb42 := NB253_251.out; have hnc42 := NB251_253.out; obtain ⟨hcz43_0, hcz43_1, hfz43_0, hfz43_1⟩ := bz2_ BK253) | ((with_reducible refine gate_store (t := 68) (p := 6) rfl ?_); refine store_event (t := 68) (p := 6) (v := ?vo_w44) (w1 := ((w40.setCell ⟨gb253, 0, none⟩ (.int .i64 ((rd_T68 l0_0 (ji3)).f0))).setCell ⟨gb253, 1, none⟩ (.int .i64 ((rd_T68 l0_0 (ji3)).f1)))) ?hg ?ho ?hn ?hr ?_; (case ho => rfl); (case hg => rfl); (case hn => rfl); (case hr => first | (go_simp; done) | (go_simp; rfl)); intro w44 hw; have n0_ : Aside0 (Kd.R k68 68 w44 w0.heap.size (fun k_ => (P0_0_ k_ ∨ w.heap.size ≤ k_) ∧ k_ ≠ gb253) (.slice (some ad252) l0_0.length co35) l0_0) := ⟨(by rw [hw]; exact (by (with_reducible repeat (first | apply Kd.R_alloc | apply Kd.R_drewN | apply Kd.R_drew)); exact Kd.R_mono (Kd.R_far (p := ⟨gb253, 1, none⟩) (Kd.R_far (p := ⟨gb253, 0, none⟩) (Kd.R_mono (ok' := fun k_ => _ ∧ k_ ≠ gb253) HO0_0.out (fun k_ hk => by first | exact (⟨hk, hk.2⟩ : _ ∧ k_ ≠ gb253) | grind)) (fun _ hk => by first | exact hk.2 | grind) (.int .i64 ((rd_T68 l0_0 (ji3)).f0))) (fun _ hk => by first | exact hk.2 | grind) (.int .i64 ((rd_T68 l0_0 (ji3)).f1))) (fun _ hk => by first | exact ⟨hk.1.1, hk.1.2⟩ | grind)))⟩; have n1_ : Aside0 (w44.heap[gb250]? = some (.cells #[.slice (some ad252) l0_0.length co35] 29 (0, 0))) := ⟨(by rw [hw]; exact (bl_ BK250))⟩; have n2_ : Aside0 (w44.heap[gb251]? = some (.cells #[.slice none 0 0] 29 (0, 0))) := ⟨(by rw [hw]; exact (bl_ BK251))⟩; have n3_ : Aside0 (w44.heap[gb253]? = some (.cells #[.int .i64 ((rd_T68 l0_0 (ji3)).f0), .int .i64 ((rd_T68 l0_0 (ji3)).f1)] 68 (0, 0))) := ⟨(by rw [hw]; exact (by (with_reducible repeat (first | refine blk_drewN ?_ _ | refine blk_drew ?_ | refine blk_alloc ?_ _)); refine blk_put (cs := #[.int .i64 ((rd_T68 l0_0 (ji3)).f0), .int .i64 0]) ?_ 1 _ rfl; (with_reducible repeat (first | refine blk_drewN ?_ _ | refine blk_drew ?_ | refine blk_alloc ?_ _)); refine blk_put (cs := #[.int .i64 0, .int .i64 0]) ?_ 0 _ rfl; exact bk_ BK253))⟩; have n4_ : Aside0 (Kept w w44 (fun k_ => P0_0_ k_)) := ⟨(by rw [hw]; exact (by repeat (first | (with_reducible first | exact HK.out | apply Kept.alloc | apply Kept.drewN | apply Kept.drew | refine Kept.setCell ?_ (.inr GW250.out) _ | refine Kept.setCell ?_ (.inr GW251.out) _ | refine Kept.setCell ?_ (.inr GW253.out) _) | exact HK.out)))⟩; have n5_ : Aside0 (Below w0.heap.size w0 w44) := ⟨(by rw [hw]; exact (bf_ HB))⟩; clear hw HO0_0 BK250 BK251 BK253 HK HB; have HO0_0 := n0_; have BK250 := n1_; have BK251 := n2_; have BK253 := n3_; have HK := n4_; have HB := n5_; clear n0_ n1_ n2_ n3_ n4_ n5_; obtain ⟨hcz45_0, hfz45_0⟩ := bz1_ BK250; have q46 : ((ji3) : Int) ≤ ((l0_0.length : Int) : Int) := od_; obtain ⟨i046, hi046, _, hsz46, _⟩ := info_parts info68; have hcut46 := cut_to (P := Try.prog) 26 68 .i64 Try.underlying26 hi046 (some ad252) l0_0.length co35 (ji3) (od_) q46 (Kd.R_reads' HO0_0.out).2.1; have hr46 := Kd.R_take (m := ((ji3) : Int).toNat) HO0_0.out (by omega); have hy46 : y254.length = ((ji3) : Int).toNat := (by rw [Ny254.out, List.length_take]; omega); rw [← Ny254.out] at hr46; rw [← hy46] at hr46 hcut46; clear hy46 hi046 hsz46 HO0_0; have HO256 := Aside0.mk hr46; clear hr46; replace q46 := eq_true q46; obtain ⟨hcz47_0, hfz47_0⟩ := bz1_ BK251))
     refine bodyPost_ret (results_cell_row rfl _ _ gb251 29 #[.slice (some ad252) y254.length co35] (0, 0) _ rfl (by (with_reducible repeat (first | refine blk_drewN ?_ _ | refine blk_drew ?_ | refine blk_alloc ?_ _)); refine blk_put (cs := #[.slice none 0 0]) ?_ 0 _ rfl; (with_reducible repeat (first | refine blk_drewN ?_ _ | refine blk_drew ?_ | refine blk_alloc ?_ _)); refine blk_far ?_ NB251_250.out _; exact bk_ BK251) Try.underlying29 rfl (by kernel_rfl)) rfl ?_
     exact ⟨_, by first | rfl | (simp [errW_none, errW_some] <;> rfl) | (simp only [← hji3]; first | rfl | (simp [errW_none, errW_some] <;> rfl)) | (simp [*, errW_none, errW_some] <;> rfl), by (with_reducible repeat (first | apply Kd.R_alloc | apply Kd.R_drewN | apply Kd.R_drew)); exact Kd.R_mono (Kd.R_far (p := ⟨gb251, 0, none⟩) (Kd.R_far (p := ⟨gb250, 0, none⟩) (Kd.R_types (Kd.R_types HO256.out BK250.out (by decide)) BK251.out (by decide)) (fun _ hk => by first | exact hk.1.2 | grind) (.slice (some ad252) y254.length co35)) (fun _ hk => by first | exact hk.2 | grind) (.slice (some ad252) y254.length co35)) (fun _ hk => by first | exact hk.1.1.1 | grind), by repeat (first | (with_reducible first | exact HB.out | apply below_alloc | apply pw_below_drewN | apply below_drew1 | refine below_set ?_ GE250.out | refine below_set ?_ GE251.out | refine below_set ?_ GE253.out) | exact HB.out), by repeat (first | (with_reducible first | exact HK.out | apply Kept.alloc | apply Kept.drewN | apply Kept.drew | refine Kept.setCell ?_ (.inr GW250.out) _ | refine Kept.setCell ?_ (.inr GW251.out) _ | refine Kept.setCell ?_ (.inr GW253.out) _) | exact HK.out)⟩
   ·rw [if_neg c6] at H
    exact absurd H (by simp)
  ·rw [if_neg c5] at H
   exact absurd H (by simp)
 ·rw [if_neg c4] at H
  exact absurd H (by simp)

/-! ### impl_HeapDrop: function 36 -/
def impl_HeapDrop.f (k : Nat) (l0_0 : List (S68)) (a1 : Int) : Option ((List (S68)) × Int) := (impl_Heap_place.f l0_0 a1).bind fun t263 => ((impl_HeapOk.f k l0_0).bind fun t264 => (if t264 = true then (if t263 < 0 then (some (([] : List (S68)), 4)) else ((impl_copyHeap.f l0_0).bind fun t265 => ((impl_Heap_remove.f k t265 t263).bind fun t268 => (some (t268, 0))))) else (some (([] : List (S68)), 1))))
theorem impl_HeapDrop.mono : ∀ a0 a1 k, LeO (impl_HeapDrop.f k a0 a1) (impl_HeapDrop.f (k + 1) a0 a1) := by
 intro a0 a1 k
 unfold impl_HeapDrop.f
 repeat' (first | (with_reducible exact impl_HeapOk.mono _ _) | (with_reducible exact impl_Heap_remove.mono _ _ _) | (with_reducible exact LeO.refl _) | (with_reducible exact LeO.none _) | (with_reducible refine LeO.ite ?_ ?_) | (with_reducible refine LeO.bind ?_ (fun _ => ?_)) | exact impl_HeapOk.mono _ _ | exact impl_Heap_remove.mono _ _ _ | exact LeO.none _ | refine LeO.ite ?_ ?_ | refine LeO.bind ?_ (fun _ => ?_))
set_option maxHeartbeats 8000000 in
set_option maxRecDepth 100000 in
theorem impl_HeapDrop.calls (k : Nat) (A0_0 : Option Addr) (c0_0 : Nat) (l0_0 : List (S68)) (a1 : Int) (r1 : List (S68)) (r2 : Int) (w : World) (hr0_0 : Kd.C k68 w A0_0 l0_0.length l0_0) (hc0_0 : l0_0.length ≤ c0_0) (h : impl_HeapDrop.f k l0_0 a1 = some (r1, r2)) :
  Calls Try.prog 36 #[.agg #[.slice A0_0 l0_0.length c0_0], .int .i64 a1] w fun e w' => ∃ v0_ : Value, e = .returned (.tuple #[.agg #[v0_], .int .i64 r2]) ∧ Kd.R k68 68 w' w.heap.size (fun _ => True) v0_ r1 ∧ Below w.heap.size w w' := by
 have hu29 := Try.underlying29
 have HR0_0 := Aside0.mk hr0_0
 have HC0_0 := Aside0.mk hc0_0
 clear hr0_0 hc0_0; have HB := Aside0.mk (Below.refl w.heap.size w)
 have H := h
 clear h
 unfold impl_HeapDrop.f at H
 replace H := Option.bind_eq_some_iff.mp H
 obtain ⟨t263, A30, H⟩ := H
 have A3 := Aside0.mk A30
 clear A30
 replace H := Option.bind_eq_some_iff.mp H
 obtain ⟨t264, A40, H⟩ := H
 have A4 := Aside0.mk A40
 clear A40
 by_cases c5 : t264 = true
 ·subst c5
  rw [if_pos rfl] at H
  by_cases c6 : t263 < 0
  ·rw [if_pos c6] at H
   have c6b0 : decide (t263 < 0) = true := decide_eq_true c6
   clear c6
   simp only [Option.some.injEq, Prod.mk.injEq] at H
   obtain ⟨rfl, rfl⟩ := H
   go_enter Try.func36, Try.ntmps36
   go_wp2_with (first | ((with_reducible refine gd_ 2 rfl ?_); refine bv_ 2 #[.slice A0_0 l0_0.length c0_0] 29 ?_; intro gb261 hg w7 hbox hb; have BK261 := Aside0.mk (hbox); have GW261 := gw_ HB hg; have GE261 := gw_ HB hg; replace HB := Aside0.mk (below_step (be_ HB) hb); clear hb hbox hg) | ((with_reducible refine gd_ 4 rfl ?_); refine bv_ 4 #[.slice none 0 0] 29 ?_; intro gb262 hg w8 hbox hb; have BK262 := Aside0.mk (hbox); have GW262 := gw_ HB hg; have GE262 := gw_ HB hg; replace HB := Aside0.mk (below_step (bf_ HB) hb); have NB261_262 := nl_ BK261 hg; have NB262_261 := ng_ BK261 hg; replace BK261 := bb_ BK261 hb; clear hb hbox hg; have hnb9 := NB261_262.out; have hnc9 := NB262_261.out; obtain ⟨hcz10_0, hfz10_0⟩ := bz1_ BK261) | ((with_reducible refine gc_ 95 rfl ?_); refine gl_ 9 Try.func95 #[.agg #[.slice A0_0 l0_0.length c0_0], .int .i64 a1] ?_; (with_reducible refine (impl_Heap_place.calls _ _ l0_0 a1 t263 _ ?side1 ?side2 A3.out).mono ?_); (case side1 => repeat (first | exact (Kd.C_below HR0_0.out HB.out) | (with_reducible refine Kd.C_alloc ?_ _) | (with_reducible refine Kd.C_drewN ?_ _) | (with_reducible refine Kd.C_drew ?_))); (case side2 => exact HC0_0.out); rintro e w11 ⟨rfl, hb⟩; refine ⟨_, rfl, ?_⟩; replace BK261 := bb_ BK261 hb; replace BK262 := bb_ BK262 hb; replace HB := Aside0.mk (below_step (bf_ HB) hb); (try clear hb); (try clear hb2); (try clear hk); (try clear hi); obtain ⟨hcz12_0, hfz12_0⟩ := bz1_ BK261) | ((with_reducible refine gc_ 41 rfl ?_); refine gl_ 12 Try.func41 #[.agg #[.slice A0_0 l0_0.length c0_0]] ?_; (with_reducible refine (impl_HeapOk.calls k _ _ l0_0 true _ ?side1 ?side2 A4.out).mono ?_); (case side1 => repeat (first | exact (Kd.C_below HR0_0.out HB.out) | (with_reducible refine Kd.C_alloc ?_ _) | (with_reducible refine Kd.C_drewN ?_ _) | (with_reducible refine Kd.C_drew ?_))); (case side2 => exact HC0_0.out); rintro e w13 ⟨rfl, hb⟩; refine ⟨_, rfl, ?_⟩; replace BK261 := bb_ BK261 hb; replace BK262 := bb_ BK262 hb; replace HB := Aside0.mk (below_step (bf_ HB) hb); (try clear hb); (try clear hb2); (try clear hk); (try clear hi); obtain ⟨hcz14_0, hfz14_0⟩ := bz1_ BK262))
   refine bodyPost_ret (results_ct rfl _ _ gb262 29 #[.slice none 0 0] (0, 0) _ rfl (by (with_reducible repeat (first | refine blk_drewN ?_ _ | refine blk_drew ?_ | refine blk_alloc ?_ _)); refine blk_put (cs := #[.slice none 0 0]) ?_ 0 _ rfl; exact bk_ BK262) Try.underlying29 rfl (by kernel_rfl)) rfl ?_
   exact ⟨_, by first | rfl | (simp [errW_none, errW_some] <;> rfl) | (simp [*, errW_none, errW_some] <;> rfl), by first | exact Kd.R_nil _ _ _ _ _ | exact Kd.N_nil _ _ _ _ _ | exact Kd.V_nil _ _ _ _ _ | exact Kd.Q_nil _ _ _ _ _ | exact Kd.S_nil _ _ _ _ _, bf_ HB⟩
  ·rw [if_neg c6] at H
   have c6b0 : decide (t263 < 0) = false := decide_eq_false c6
   clear c6
   replace H := Option.bind_eq_some_iff.mp H
   obtain ⟨t265, A150, H⟩ := H
   have A15 := Aside0.mk A150
   clear A150
   replace H := Option.bind_eq_some_iff.mp H
   obtain ⟨t268, A160, H⟩ := H
   have A16 := Aside0.mk A160
   clear A160
   simp only [Option.some.injEq, Prod.mk.injEq] at H
   obtain ⟨rfl, rfl⟩ := H
   go_enter Try.func36, Try.ntmps36
   go_wp2_with (first | ((with_reducible refine gd_ 2 rfl ?_); refine bv_ 2 #[.slice A0_0 l0_0.length c0_0] 29 ?_; intro gb261 hg w17 hbox hb; have BK261 := Aside0.mk (hbox); have GW261 := gw_ HB hg; have GE261 := gw_ HB hg; replace HB := Aside0.mk (below_step (be_ HB) hb); clear hb hbox hg) | ((with_reducible refine gd_ 4 rfl ?_); refine bv_ 4 #[.slice none 0 0] 29 ?_; intro gb262 hg w18 hbox hb; have BK262 := Aside0.mk (hbox); have GW262 := gw_ HB hg; have GE262 := gw_ HB hg; replace HB := Aside0.mk (below_step (bf_ HB) hb); have NB261_262 := nl_ BK261 hg; have NB262_261 := ng_ BK261 hg; replace BK261 := bb_ BK261 hb; clear hb hbox hg; have hnb19 := NB261_262.out; have hnc19 := NB262_261.out; obtain ⟨hcz20_0, hfz20_0⟩ := bz1_ BK261) | ((with_reducible refine gc_ 95 rfl ?_); refine gl_ 9 Try.func95 #[.agg #[.slice A0_0 l0_0.length c0_0], .int .i64 a1] ?_; (with_reducible refine (impl_Heap_place.calls _ _ l0_0 a1 t263 _ ?side1 ?side2 A3.out).mono ?_); (case side1 => repeat (first | exact (Kd.C_below HR0_0.out HB.out) | (with_reducible refine Kd.C_alloc ?_ _) | (with_reducible refine Kd.C_drewN ?_ _) | (with_reducible refine Kd.C_drew ?_))); (case side2 => exact HC0_0.out); rintro e w21 ⟨rfl, hb⟩; refine ⟨_, rfl, ?_⟩; replace BK261 := bb_ BK261 hb; replace BK262 := bb_ BK262 hb; replace HB := Aside0.mk (below_step (bf_ HB) hb); (try clear hb); (try clear hb2); (try clear hk); (try clear hi); obtain ⟨hcz22_0, hfz22_0⟩ := bz1_ BK261) | ((with_reducible refine gc_ 41 rfl ?_); refine gl_ 12 Try.func41 #[.agg #[.slice A0_0 l0_0.length c0_0]] ?_; (with_reducible refine (impl_HeapOk.calls k _ _ l0_0 true _ ?side1 ?side2 A4.out).mono ?_); (case side1 => repeat (first | exact (Kd.C_below HR0_0.out HB.out) | (with_reducible refine Kd.C_alloc ?_ _) | (with_reducible refine Kd.C_drewN ?_ _) | (with_reducible refine Kd.C_drew ?_))); (case side2 => exact HC0_0.out); rintro e w23 ⟨rfl, hb⟩; refine ⟨_, rfl, ?_⟩; replace BK261 := bb_ BK261 hb; replace BK262 := bb_ BK262 hb; replace HB := Aside0.mk (below_step (bf_ HB) hb); (try clear hb); (try clear hb2); (try clear hk); (try clear hi); obtain ⟨hcz24_0, hfz24_0⟩ := bz1_ BK261) | ((with_reducible refine gc_ 96 rfl ?_); refine gl_ 20 Try.func96 #[.agg #[.slice A0_0 l0_0.length c0_0]] ?_; (with_reducible refine (impl_copyHeap.calls _ _ l0_0 t265 _ ?side1 ?side2 A15.out).mono ?_); (case side1 => repeat (first | exact (Kd.C_below HR0_0.out HB.out) | (with_reducible refine Kd.C_alloc ?_ _) | (with_reducible refine Kd.C_drewN ?_ _) | (with_reducible refine Kd.C_drew ?_))); (case side2 => exact HC0_0.out); rintro e w25 ⟨v266, rfl, ho0, hb⟩; refine ⟨_, rfl, ?_⟩; have HO267 := Aside0.mk (Kd.R_lower ho0 (below_size (bf_ HB))); replace BK261 := bb_ BK261 hb; replace BK262 := bb_ BK262 hb; replace HB := Aside0.mk (below_step (bf_ HB) hb); (try clear hb); (try clear hb2); (try clear hk); (try clear hi); (try clear ho0); obtain ⟨Ao26, co26, eo26⟩ := Kd.R_slice HO267.out; subst eo26) | ((with_reducible refine gc_ 97 rfl ?_); refine gl_ 22 Try.func97 #[.agg #[.slice Ao26 t265.length co26], .int .i64 t263] ?_; (with_reducible refine (impl_Heap_remove.calls k (fun k_ => some k_ = (.slice Ao26 t265.length co26 : Value).ownBlock) (.slice Ao26 t265.length co26) t265 t263 t268 w _ ?side1 ?side2 A16.out).mono ?_); (case side1 => repeat (first | (with_reducible first | exact HB.out | apply below_alloc | apply pw_below_drewN | apply below_drew1 | refine below_set ?_ GE261.out | refine below_set ?_ GE262.out) | exact HB.out)); (case side2 => exact Kd.R_tight rfl HO267.out); rintro e w27 ⟨v269, rfl, ho0, hb, hkp⟩; refine ⟨_, rfl, ?_⟩; replace BK261 := Aside0.mk (blk_kept (bk_ BK261) hkp (fun hs_ => (fun e_ => (Kd.R_ne HO267.out BK261.out (by decide)) e_) hs_)); replace BK262 := Aside0.mk (blk_kept (bk_ BK262) hkp (fun hs_ => (fun e_ => (Kd.R_ne HO267.out BK262.out (by decide)) e_) hs_)); have HO270 := Aside0.mk (Kd.R_mono (ok' := fun k_ => True) ho0 (fun k_ hk_ => trivial)); replace HB := Aside0.mk (hb); clear HO267; (try clear hb); (try clear hkp); (try clear ho0); obtain ⟨Ao28, co28, eo28⟩ := Kd.R_slice HO270.out; subst eo28; obtain ⟨hcz29_0, hfz29_0⟩ := bz1_ BK262))
   refine bodyPost_ret (results_ct rfl _ _ gb262 29 #[.slice Ao28 t268.length co28] (0, 0) _ rfl (by (with_reducible repeat (first | refine blk_drewN ?_ _ | refine blk_drew ?_ | refine blk_alloc ?_ _)); refine blk_put (cs := #[.slice none 0 0]) ?_ 0 _ rfl; exact bk_ BK262) Try.underlying29 rfl (by kernel_rfl)) rfl ?_
   exact ⟨_, by first | rfl | (simp [errW_none, errW_some] <;> rfl) | (simp [*, errW_none, errW_some] <;> rfl), by (with_reducible repeat (first | apply Kd.R_alloc | apply Kd.R_drewN | apply Kd.R_drew)); exact Kd.R_mono (Kd.R_far (p := ⟨gb262, 0, none⟩) (Kd.R_types HO270.out BK262.out (by decide)) (fun _ hk => by first | exact hk.2 | grind) (.slice Ao28 t268.length co28)) (fun _ hk => by first | exact trivial | grind), bf_ HB⟩
 ·replace c5 := Bool.eq_false_iff.mpr c5
  subst c5
  rw [if_neg (show ¬ (false = true) by decide)] at H
  simp only [Option.some.injEq, Prod.mk.injEq] at H
  obtain ⟨rfl, rfl⟩ := H
  go_enter Try.func36, Try.ntmps36
  go_wp2_with (first | ((with_reducible refine gd_ 2 rfl ?_); refine bv_ 2 #[.slice A0_0 l0_0.length c0_0] 29 ?_; intro gb261 hg w30 hbox hb; have BK261 := Aside0.mk (hbox); have GW261 := gw_ HB hg; have GE261 := gw_ HB hg; replace HB := Aside0.mk (below_step (be_ HB) hb); clear hb hbox hg) | ((with_reducible refine gd_ 4 rfl ?_); refine bv_ 4 #[.slice none 0 0] 29 ?_; intro gb262 hg w31 hbox hb; have BK262 := Aside0.mk (hbox); have GW262 := gw_ HB hg; have GE262 := gw_ HB hg; replace HB := Aside0.mk (below_step (bf_ HB) hb); have NB261_262 := nl_ BK261 hg; have NB262_261 := ng_ BK261 hg; replace BK261 := bb_ BK261 hb; clear hb hbox hg; have hnb32 := NB261_262.out; have hnc32 := NB262_261.out; obtain ⟨hcz33_0, hfz33_0⟩ := bz1_ BK261) | ((with_reducible refine gc_ 95 rfl ?_); refine gl_ 9 Try.func95 #[.agg #[.slice A0_0 l0_0.length c0_0], .int .i64 a1] ?_; (with_reducible refine (impl_Heap_place.calls _ _ l0_0 a1 t263 _ ?side1 ?side2 A3.out).mono ?_); (case side1 => repeat (first | exact (Kd.C_below HR0_0.out HB.out) | (with_reducible refine Kd.C_alloc ?_ _) | (with_reducible refine Kd.C_drewN ?_ _) | (with_reducible refine Kd.C_drew ?_))); (case side2 => exact HC0_0.out); rintro e w34 ⟨rfl, hb⟩; refine ⟨_, rfl, ?_⟩; replace BK261 := bb_ BK261 hb; replace BK262 := bb_ BK262 hb; replace HB := Aside0.mk (below_step (bf_ HB) hb); (try clear hb); (try clear hb2); (try clear hk); (try clear hi); obtain ⟨hcz35_0, hfz35_0⟩ := bz1_ BK261) | ((with_reducible refine gc_ 41 rfl ?_); refine gl_ 12 Try.func41 #[.agg #[.slice A0_0 l0_0.length c0_0]] ?_; (with_reducible refine (impl_HeapOk.calls k _ _ l0_0 false _ ?side1 ?side2 A4.out).mono ?_); (case side1 => repeat (first | exact (Kd.C_below HR0_0.out HB.out) | (with_reducible refine Kd.C_alloc ?_ _) | (with_reducible refine Kd.C_drewN ?_ _) | (with_reducible refine Kd.C_drew ?_))); (case side2 => exact HC0_0.out); rintro e w36 ⟨rfl, hb⟩; refine ⟨_, rfl, ?_⟩; replace BK261 := bb_ BK261 hb; replace BK262 := bb_ BK262 hb; replace HB := Aside0.mk (below_step (bf_ HB) hb); (try clear hb); (try clear hb2); (try clear hk); (try clear hi); obtain ⟨hcz37_0, hfz37_0⟩ := bz1_ BK262))
  refine bodyPost_ret (results_ct rfl _ _ gb262 29 #[.slice none 0 0] (0, 0) _ rfl (by (with_reducible repeat (first | refine blk_drewN ?_ _ | refine blk_drew ?_ | refine blk_alloc ?_ _)); refine blk_put (cs := #[.slice none 0 0]) ?_ 0 _ rfl; exact bk_ BK262) Try.underlying29 rfl (by kernel_rfl)) rfl ?_
  exact ⟨_, by first | rfl | (simp [errW_none, errW_some] <;> rfl) | (simp [*, errW_none, errW_some] <;> rfl), by first | exact Kd.R_nil _ _ _ _ _ | exact Kd.N_nil _ _ _ _ _ | exact Kd.V_nil _ _ _ _ _ | exact Kd.Q_nil _ _ _ _ _ | exact Kd.S_nil _ _ _ _ _, bf_ HB⟩

/-! ### laws_heldItemS: function 23 -/
def laws_heldItemS.l0 : Nat → List (S68) → Int → Int → Option (Int)
  | 0, _, _, _ => none
  | k + 1, x0, x1, x5 => if x5 < (x0.length : Int) then (if 0 ≤ x5 then (if ((rd_T68 x0 x5).f0) = x1 then (if ((rd_T68 x0 x5).f1) = (wrap64 (x1 + 1)) then (laws_heldItemS.l0 k x0 (wrap64 ((wrap64 (x1 + 1)) + 1)) (wrap64 (x5 + 1))) else (some (-1))) else (some (-1))) else (none)) else (some x1)
def laws_heldItemS.f (k : Nat) (l0 : List (S68)) (a1 : Int) : Option (Int) := laws_heldItemS.l0 k l0 a1 0
theorem laws_heldItemS.mono_l : ∀ k, (∀ y0 y1 y2, LeO (laws_heldItemS.l0 k y0 y1 y2) (laws_heldItemS.l0 (k + 1) y0 y1 y2))
 | 0 => fun _ _ _ r h => by simp [laws_heldItemS.l0] at h
 | k + 1 => by
  have ih0 := laws_heldItemS.mono_l k
  ·intro y0 y1 y2
   unfold laws_heldItemS.l0
   repeat' (first | (with_reducible exact ih0 ..) | (with_reducible exact LeO.refl _) | (with_reducible exact LeO.none _) | (with_reducible refine LeO.ite ?_ ?_) | (with_reducible refine LeO.bind ?_ (fun _ => ?_)) | exact ih0 .. | exact LeO.none _ | refine LeO.ite ?_ ?_ | refine LeO.bind ?_ (fun _ => ?_))
theorem laws_heldItemS.mono : ∀ a0 a1 k, LeO (laws_heldItemS.f k a0 a1) (laws_heldItemS.f (k + 1) a0 a1) := by
 intro a0 a1 k
 have ih0 := laws_heldItemS.mono_l k
 unfold laws_heldItemS.f
 repeat' (first | (with_reducible exact ih0 ..) | (with_reducible exact LeO.refl _) | (with_reducible exact LeO.none _) | (with_reducible refine LeO.ite ?_ ?_) | (with_reducible refine LeO.bind ?_ (fun _ => ?_)) | exact ih0 .. | exact LeO.none _ | refine LeO.ite ?_ ?_ | refine LeO.bind ?_ (fun _ => ?_))
set_option maxHeartbeats 8000000 in
set_option maxRecDepth 100000 in
theorem laws_heldItemS.calls (k : Nat) (A0 : Option Addr) (c0 : Nat) (l0 : List (S68)) (a1 : Int) (r : Int) (w : World) (hr0 : Kd.C k68 w A0 l0.length l0) (hc0 : l0.length ≤ c0) (h : laws_heldItemS.f k l0 a1 = some r) :
  Calls Try.prog 23 #[.slice A0 l0.length c0, .int .i64 a1] w fun e w' => e = .returned (.int .i64 r) ∧ Drawn0 w w' := by
 have HR0 := Aside0.mk hr0
 have HC0 := Aside0.mk hc0
 clear hr0 hc0
 have H := h
 clear h
 unfold laws_heldItemS.f at H
 have H' := Aside0.mk H
 clear H
 go_enter Try.func23, Try.ntmps23
 go_wp2
 go_loopg [1, 5] k (fun kq v1 v5 w' => ∃ (x1_1 : Int) (x5_1 : Int), v1 = .int .i64 x1_1 ∧ v5 = .int .i64 x5_1 ∧ Aside0 (laws_heldItemS.l0 kq l0 x1_1 x5_1 = some r) ∧ Aside0 (kq ≤ k) ∧ Drawn0 w w')
 case atStart => exact ⟨(a1), (0), (by first | rfl | (simp; done) | (simp [*]; done)), (by first | rfl | (simp; done) | (simp [*]; done)), H', ⟨Nat.le_refl _⟩, by repeat (first | exact Drawn0.refl _ | apply Drawn0.step)⟩
 case round =>
  clear H'
  (try clear c2); (try clear p2)
  obtain ⟨x1_1, x5_1, rfl, rfl, HA, HK1, ⟨m1, rfl⟩⟩ := hrel
  cases gk with
  | zero => exact absurd HA.out (by simp [laws_heldItemS.l0])
  | succ k1 =>
   have H := HA.out
   clear HA
   simp only [laws_heldItemS.l0] at H
   by_cases c3 : x5_1 < (l0.length : Int)
   ·rw [if_pos c3] at H
    have c3b0 : decide (x5_1 < (l0.length : Int)) = true := decide_eq_true c3
    clear c3
    by_cases c4 : 0 ≤ x5_1
    ·rw [if_pos c4] at H
     have c4b0 : decide (0 ≤ x5_1) = true := decide_eq_true c4
     clear c4
     by_cases c5 : ((rd_T68 l0 x5_1).f0) = x1_1
     ·rw [if_pos c5] at H
      have c5b0 : (((rd_T68 l0 x5_1).f0) == x1_1) = true := beq_iff_eq.mpr c5
      have c5b1 : (((rd_T68 l0 x5_1).f0) != x1_1) = false := bne_eq_false_iff_eq.mpr c5
      clear c5
      by_cases c6 : ((rd_T68 l0 x5_1).f1) = (wrap64 (x1_1 + 1))
      ·rw [if_pos c6] at H
       have c6b0 : (((rd_T68 l0 x5_1).f1) == (wrap64 (x1_1 + 1))) = true := beq_iff_eq.mpr c6
       have c6b1 : (((rd_T68 l0 x5_1).f1) != (wrap64 (x1_1 + 1))) = false := bne_eq_false_iff_eq.mpr c6
       clear c6
       have H' := Aside0.mk H
       clear H
       have p271 : 0 ≤ (x5_1 : Int) := od_
       have q271 : x5_1 < (l0.length : Int) := od_
       obtain ⟨ad271, e271, hx271_0, hx271_1⟩ := at_T68 HR0.out x5_1 p271 q271
       cases e271
       replace p271 := eq_true p271
       replace q271 := eq_true q271
       have p272 : 0 ≤ (x5_1 : Int) := od_
       have q272 : x5_1 < (l0.length : Int) := od_
       obtain ⟨ad272, e272, hx272_0, hx272_1⟩ := at_T68 HR0.out x5_1 p272 q272
       obtain rfl : ad271 = ad272 := (by injection e272)
       replace p272 := eq_true p272
       replace q272 := eq_true q272
       go_wp2
       go_roundg k1
       case measure => have := HK1.out; omega
       case rel => exact ⟨(wrap64 ((wrap64 (x1_1 + 1)) + 1)), (wrap64 (x5_1 + 1)), (by first | rfl | (simp; done) | (simp [*]; done)), (by first | rfl | (simp; done) | (simp [*]; done)), H', ⟨by have := HK1.out; omega⟩, by repeat (first | exact Drawn0.refl _ | apply Drawn0.step)⟩
      ·rw [if_neg c6] at H
       have c6b0 : (((rd_T68 l0 x5_1).f1) == (wrap64 (x1_1 + 1))) = false := beq_eq_false_iff_ne.mpr c6
       have c6b1 : (((rd_T68 l0 x5_1).f1) != (wrap64 (x1_1 + 1))) = true := bne_iff_ne.mpr c6
       obtain rfl := Option.some.inj H
       have p271 : 0 ≤ (x5_1 : Int) := od_
       have q271 : x5_1 < (l0.length : Int) := od_
       obtain ⟨ad271, e271, hx271_0, hx271_1⟩ := at_T68 HR0.out x5_1 p271 q271
       cases e271
       replace p271 := eq_true p271
       replace q271 := eq_true q271
       have p272 : 0 ≤ (x5_1 : Int) := od_
       have q272 : x5_1 < (l0.length : Int) := od_
       obtain ⟨ad272, e272, hx272_0, hx272_1⟩ := at_T68 HR0.out x5_1 p272 q272
       obtain rfl : ad271 = ad272 := (by injection e272)
       replace p272 := eq_true p272
       replace q272 := eq_true q272
       go_wp2
       go_ret
       exact ⟨by first | rfl | (simp; done) | (simp [*]; done), by repeat (first | exact Drawn0.refl _ | apply Drawn0.step)⟩
     ·rw [if_neg c5] at H
      have c5b0 : (((rd_T68 l0 x5_1).f0) == x1_1) = false := beq_eq_false_iff_ne.mpr c5
      have c5b1 : (((rd_T68 l0 x5_1).f0) != x1_1) = true := bne_iff_ne.mpr c5
      obtain rfl := Option.some.inj H
      have p271 : 0 ≤ (x5_1 : Int) := od_
      have q271 : x5_1 < (l0.length : Int) := od_
      obtain ⟨ad271, e271, hx271_0, hx271_1⟩ := at_T68 HR0.out x5_1 p271 q271
      cases e271
      replace p271 := eq_true p271
      replace q271 := eq_true q271
      go_wp2
      go_ret
      exact ⟨by first | rfl | (simp; done) | (simp [*]; done), by repeat (first | exact Drawn0.refl _ | apply Drawn0.step)⟩
    ·rw [if_neg c4] at H
     exact absurd H (by simp)
   ·rw [if_neg c3] at H
    have c3b0 : decide (x5_1 < (l0.length : Int)) = false := decide_eq_false c3
    clear c3
    obtain rfl := Option.some.inj H
    go_wp2
    go_ret
    exact ⟨by first | rfl | (simp; done) | (simp [*]; done), by repeat (first | exact Drawn0.refl _ | apply Drawn0.step)⟩

/-! ### laws_heldHeap: function 37 -/
def laws_heldHeap.f (k : Nat) (l0_0 : List (S68)) (a1 : Int) : Option (Int) := (laws_heldItemS.f k l0_0 a1).bind fun t274 => (if t274 < 0 then (some (-1)) else (some t274))
theorem laws_heldHeap.mono : ∀ a0 a1 k, LeO (laws_heldHeap.f k a0 a1) (laws_heldHeap.f (k + 1) a0 a1) := by
 intro a0 a1 k
 unfold laws_heldHeap.f
 repeat' (first | (with_reducible exact laws_heldItemS.mono _ _ _) | (with_reducible exact LeO.refl _) | (with_reducible exact LeO.none _) | (with_reducible refine LeO.ite ?_ ?_) | (with_reducible refine LeO.bind ?_ (fun _ => ?_)) | exact laws_heldItemS.mono _ _ _ | exact LeO.none _ | refine LeO.ite ?_ ?_ | refine LeO.bind ?_ (fun _ => ?_))
set_option maxHeartbeats 8000000 in
set_option maxRecDepth 100000 in
theorem laws_heldHeap.calls (k : Nat) (A0_0 : Option Addr) (c0_0 : Nat) (l0_0 : List (S68)) (a1 : Int) (r : Int) (w : World) (hr0_0 : Kd.C k68 w A0_0 l0_0.length l0_0) (hc0_0 : l0_0.length ≤ c0_0) (h : laws_heldHeap.f k l0_0 a1 = some r) :
  Calls Try.prog 37 #[.agg #[.slice A0_0 l0_0.length c0_0], .int .i64 a1] w fun e w' => e = .returned (.int .i64 r) ∧ Below w.heap.size w w' := by
 have hu29 := Try.underlying29
 have HR0_0 := Aside0.mk hr0_0
 have HC0_0 := Aside0.mk hc0_0
 clear hr0_0 hc0_0; have HB := Aside0.mk (Below.refl w.heap.size w)
 have H := h
 clear h
 unfold laws_heldHeap.f at H
 replace H := Option.bind_eq_some_iff.mp H
 obtain ⟨t274, A30, H⟩ := H
 have A3 := Aside0.mk A30
 clear A30
 by_cases c4 : t274 < 0
 ·rw [if_pos c4] at H
  have c4b0 : decide (t274 < 0) = true := decide_eq_true c4
  clear c4
  obtain rfl := Option.some.inj H
  go_enter Try.func37, Try.ntmps37
  go_wp2_with (first | ((with_reducible refine gd_ 2 rfl ?_); refine bv_ 2 #[.slice A0_0 l0_0.length c0_0] 29 ?_; intro gb273 hg w5 hbox hb; have BK273 := Aside0.mk (hbox); have GW273 := gw_ HB hg; have GE273 := gw_ HB hg; replace HB := Aside0.mk (below_step (be_ HB) hb); clear hb hbox hg; obtain ⟨hcz6_0, hfz6_0⟩ := bz1_ BK273) | ((with_reducible refine gc_ 23 rfl ?_); refine gl_ 8 Try.func23 #[.slice A0_0 l0_0.length c0_0, .int .i64 a1] ?_; (with_reducible refine (laws_heldItemS.calls k _ _ l0_0 a1 t274 _ ?side1 ?side2 A3.out).mono ?_); (case side1 => repeat (first | exact (Kd.C_below HR0_0.out HB.out) | (with_reducible refine Kd.C_alloc ?_ _) | (with_reducible refine Kd.C_drewN ?_ _) | (with_reducible refine Kd.C_drew ?_))); (case side2 => exact HC0_0.out); rintro e w' ⟨rfl, ⟨nd, rfl⟩⟩; refine ⟨_, rfl, ?_⟩))
  go_ret
  exact ⟨by first | rfl | (simp [errW_none, errW_some] <;> rfl) | (simp [*, errW_none, errW_some] <;> rfl), bf_ HB⟩
 ·rw [if_neg c4] at H
  have c4b0 : decide (t274 < 0) = false := decide_eq_false c4
  clear c4
  obtain rfl := Option.some.inj H
  go_enter Try.func37, Try.ntmps37
  go_wp2_with (first | ((with_reducible refine gd_ 2 rfl ?_); refine bv_ 2 #[.slice A0_0 l0_0.length c0_0] 29 ?_; intro gb273 hg w7 hbox hb; have BK273 := Aside0.mk (hbox); have GW273 := gw_ HB hg; have GE273 := gw_ HB hg; replace HB := Aside0.mk (below_step (be_ HB) hb); clear hb hbox hg; obtain ⟨hcz8_0, hfz8_0⟩ := bz1_ BK273) | ((with_reducible refine gc_ 23 rfl ?_); refine gl_ 8 Try.func23 #[.slice A0_0 l0_0.length c0_0, .int .i64 a1] ?_; (with_reducible refine (laws_heldItemS.calls k _ _ l0_0 a1 t274 _ ?side1 ?side2 A3.out).mono ?_); (case side1 => repeat (first | exact (Kd.C_below HR0_0.out HB.out) | (with_reducible refine Kd.C_alloc ?_ _) | (with_reducible refine Kd.C_drewN ?_ _) | (with_reducible refine Kd.C_drew ?_))); (case side2 => exact HC0_0.out); rintro e w' ⟨rfl, ⟨nd, rfl⟩⟩; refine ⟨_, rfl, ?_⟩))
  go_ret
  exact ⟨by first | rfl | (simp [errW_none, errW_some] <;> rfl) | (simp [*, errW_none, errW_some] <;> rfl), bf_ HB⟩

end Go.Proofs.Ytnklakficjpmoaa.PFnExactHeapDrop
