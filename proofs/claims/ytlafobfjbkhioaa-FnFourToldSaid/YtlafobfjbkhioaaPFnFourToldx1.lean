-- printed by a program of this session (wip/printx) out of the translation; Lean checks it
import Derived.Test.YtlafobfjbkhioaaVFnFourTold
import Derived.Test.YtlafobfjbkhioaaPFnFourToldx0
namespace Go.Proofs.Ytlafobfjbkhioaa.PFnFourTold
open Go.RowKit Go.Proofs.YtlafobfjbkhioaaW.PrintWords Go.Proofs.YtlafobfjbkhioaaW.PrintLast Go.Proofs.YtlafobfjbkhioaaW.PrintMore
attribute [local go_sem] max2_int min2_int max_two min_two max_three min_three max_four min_four   -- for this text's walks alone
set_option linter.unusedVariables false
set_option linter.unusedSimpArgs false

/-! ### laws_big: function 10 -/
def laws_big.f (l0:List Int):Option (Bool):=some (decide ((l0.length:Int) > 1048576))
set_option maxHeartbeats 80000000 in
set_option maxRecDepth 100000 in
theorem laws_big.calls (A0:Option Addr) (c0:Nat) (l0:List Int) (r:Bool) (w:World) (hr0:Kd.C (Kd.int .u8) w A0 l0.length l0) (hc0:l0.length≤c0) (h:laws_big.f l0=some r) :
  Calls Try.prog 10 #[.slice A0 l0.length c0] w fun e w'=>e=.returned (.bool r)∧Drawn0 w w':=by
 have HR0:=am_ hr0;have HC0:=am_ hc0;clear hr0 hc0;have H:=h;clear h;unfold laws_big.f at H;obtain rfl:=Option.some.inj H
 go_enter Try.func10,Try.ntmps10
 go_wp2;go_ret;exact⟨by first|rfl|(simp;done)|(simp [*];done),by repeat (first|exact Drawn0.refl _|apply Drawn0.step)⟩

/-! ### laws_pick: function 11 -/
mutual
def laws_pick.j0:Nat→List Int→Int→Int→Bool→Option (Int)
  | 0,_,_,_,_=>none
  | k+1,x0,x1,x2,x15=>if x15=true then(some 0) else(laws_pick.l0 k x0 x1 x2 0 0)
def laws_pick.l0:Nat→List Int→Int→Int→Int→Int→Option (Int)
  | 0,_,_,_,_,_=>none
  | k+1,x0,x1,x2,x7,x8=>if x8 < 3 then(if (x0.length:Int)=0 then(none) else(if 0≤(Int.tmod (wrap64 (x1+x8)) (x0.length:Int)) then(if (Int.tmod (wrap64 (x1+x8)) (x0.length:Int)) < (x0.length:Int) then(laws_pick.l0 k x0 x1 x2 (wrap64 ((wrap64 (31 * x7))+(wrap64 (rd x0 (Int.tmod (wrap64 (x1+x8)) (x0.length:Int)))))) (wrap64 (x8+1))) else(none)) else(none))) else(if x2=0 then(none) else(some (Int.tmod (wrap64 (x7+x1)) x2)))
end
def laws_pick.f (k:Nat) (l0:List Int) (a1:Int) (a2:Int):Option (Int):=if (l0.length:Int)=0 then(laws_pick.j0 k l0 a1 a2 true) else(laws_pick.j0 k l0 a1 a2 (decide (a2 < 2)))
theorem laws_pick.mono_l:∀ k,(∀ y0 y1 y2 y3,LeO (laws_pick.j0 k y0 y1 y2 y3) (laws_pick.j0 (k+1) y0 y1 y2 y3))∧(∀ y0 y1 y2 y3 y4,LeO (laws_pick.l0 k y0 y1 y2 y3 y4) (laws_pick.l0 (k+1) y0 y1 y2 y3 y4))
 | 0=>⟨fun _ _ _ _ r h=>by simp [laws_pick.j0]at h,fun _ _ _ _ _ r h=>by simp [laws_pick.l0]at h⟩
 | k+1=>by
  obtain⟨ih0,ih1⟩:=laws_pick.mono_l k;refine⟨?_,?_⟩<;>intros<;>(first|unfold laws_pick.j0|unfold laws_pick.l0)<;>repeat' (first|(with_reducible exact ih0 ..)|(with_reducible exact ih1 ..)|(with_reducible exact LeO.refl _)|(with_reducible exact LeO.none _)|(with_reducible refine LeO.ite ?_ ?_)|(with_reducible refine LeO.bind ?_ (fun _=>?_))|exact ih0 ..|exact ih1 ..|exact LeO.none _|refine LeO.ite ?_ ?_|refine LeO.bind ?_ (fun _=>?_))
theorem laws_pick.mono:∀ a0 a1 a2 k,LeO (laws_pick.f k a0 a1 a2) (laws_pick.f (k+1) a0 a1 a2):=by
 intro a0 a1 a2 k;obtain⟨ih0,ih1⟩:=laws_pick.mono_l k;unfold laws_pick.f
 repeat' (first|(with_reducible exact ih0 ..)|(with_reducible exact ih1 ..)|(with_reducible exact LeO.refl _)|(with_reducible exact LeO.none _)|(with_reducible refine LeO.ite ?_ ?_)|(with_reducible refine LeO.bind ?_ (fun _=>?_))|exact ih0 ..|exact ih1 ..|exact LeO.none _|refine LeO.ite ?_ ?_|refine LeO.bind ?_ (fun _=>?_))
set_option maxHeartbeats 80000000 in
set_option maxRecDepth 100000 in
theorem laws_pick.calls (k:Nat) (A0:Option Addr) (c0:Nat) (l0:List Int) (a1:Int) (a2:Int) (r:Int) (w:World) (hr0:Kd.C (Kd.int .u8) w A0 l0.length l0) (hc0:l0.length≤c0) (h:laws_pick.f k l0 a1 a2=some r) :
  Calls Try.prog 11 #[.slice A0 l0.length c0,.int .i64 a1,.int .i64 a2] w fun e w'=>e=.returned (.int .i64 r)∧Drawn0 w w':=by
 have HR0:=am_ hr0;have HC0:=am_ hc0;clear hr0 hc0;have H:=h;clear h;unfold laws_pick.f at H;have HC4:=am_ H;clear H
 go_enter Try.func11,Try.ntmps11
 go_upto_region 1 with (fail)
 go_cut [15] (fun v15 wc=>∃ (kq:Nat) (x15_3:Bool),v15=.bool x15_3∧Aside0 (laws_pick.j0 kq l0 a1 a2 x15_3=some r)∧Aside0 (kq≤k)∧Drawn0 w wc)
 case first =>
  have H:=HC4.out;clear HC4
  by_cases c5:(l0.length:Int)=0
  ·rw [if_pos c5]at H;have c5b0:((l0.length:Int) == 0)=true:=beq_iff_eq.mpr c5;have c5b1:((l0.length:Int) != 0)=false:=bne_eq_false_iff_eq.mpr c5;clear c5;(first|rw [c5b0]|(simp only [i64_w,i32_w];rw [c5b0])|skip);have H':=am_ H;clear H;go_wp2;go_meet
   case rel=>exact⟨_,(true),re_,H',⟨by first|omega|exact Nat.le_refl _⟩,by repeat (first|exact Drawn0.refl _|apply Drawn0.step)⟩
  ·rw [if_neg c5]at H;have c5b0:((l0.length:Int) == 0)=false:=beq_eq_false_iff_ne.mpr c5;have c5b1:((l0.length:Int) != 0)=true:=bne_iff_ne.mpr c5;have c5b2:¬ (l0=[]):=fun h_=>c5 (by rw [h_];rfl);(first|rw [c5b0]|(simp only [i64_w,i32_w];rw [c5b0])|skip);have H':=am_ H;clear H;go_wp2;go_meet
   case rel=>exact⟨_,(decide (a2 < 2)),re_,H',⟨by first|omega|exact Nat.le_refl _⟩,by repeat (first|exact Drawn0.refl _|apply Drawn0.step)⟩
 case rest =>
  clear HC4;obtain⟨kq,x15_3,rfl,HA,HJ3,⟨mc3,rfl⟩⟩:=hcut
  cases kq with
  | zero=>exact absurd HA.out (by simp [laws_pick.j0])
  | succ kj3 =>
   have H:=HA.out;clear HA;simp only [laws_pick.j0]at H
   by_cases c6:x15_3=true
   ·subst c6;rw [if_pos rfl]at H;obtain rfl:=Option.some.inj H;go_wp2;go_ret;exact⟨by first|rfl|(simp;done)|(simp [*];done),by repeat (first|exact Drawn0.refl _|apply Drawn0.step)⟩
   ·replace c6:=Bool.eq_false_iff.mpr c6;subst c6;rw [if_neg (show ¬ (false=true) by decide)]at H;have H':=am_ H;clear H;go_wp2
    go_loopg [7,8] kj3 (fun kq v7 v8 w'=>∃ (x7_2:Int) (x8_2:Int),v7=.int .i64 x7_2∧v8=.int .i64 x8_2∧Aside0 (laws_pick.l0 kq l0 a1 a2 x7_2 x8_2=some r)∧Aside0 (kq≤kj3)∧Drawn0 w w')
    case atStart=>exact⟨(0),(0),re_,re_,H',⟨Nat.le_refl _⟩,by repeat (first|exact Drawn0.refl _|apply Drawn0.step)⟩
    case round =>
     clear H';(try clear c6);obtain⟨x7_2,x8_2,rfl,rfl,HA,HK2,⟨m2,rfl⟩⟩:=hrel
     cases gk with
     | zero=>exact absurd HA.out (by simp [laws_pick.l0])
     | succ k2 =>
      have H:=HA.out;clear HA;simp only [laws_pick.l0]at H
      by_cases c7:x8_2 < 3
      ·rw [if_pos c7]at H;have c7b0:decide (x8_2 < 3)=true:=decide_eq_true c7;clear c7
       by_cases c8:(l0.length:Int)=0
       ·rw [if_pos c8]at H;exact absurd H (by simp)
       ·rw [if_neg c8]at H;have c8b0:((l0.length:Int) == 0)=false:=beq_eq_false_iff_ne.mpr c8;have c8b1:((l0.length:Int) != 0)=true:=bne_iff_ne.mpr c8;have c8b2:¬ (l0=[]):=fun h_=>c8 (by rw [h_];rfl);obtain⟨ji9,hji9⟩:∃ j_:Int,(Int.tmod (wrap64 (a1+x8_2)) (l0.length:Int))=j_:=⟨_,rfl⟩;replace H:(if 0≤(ji9) then(if (ji9) < (l0.length:Int) then(laws_pick.l0 k2 l0 a1 a2 (wrap64 ((wrap64 (31 * x7_2))+(wrap64 (rd l0 (ji9))))) (wrap64 (x8_2+1))) else(none)) else(none))=some r:=(by first|(rw [hji9]at H;exact H)|(simp only [hji9]at H ⊢;exact H))
        by_cases c10:0≤(ji9)
        ·rw [if_pos c10]at H;have c10b0:decide (0≤(ji9))=true:=decide_eq_true c10;clear c10
         by_cases c11:(ji9) < (l0.length:Int)
         ·rw [if_pos c11]at H;have c11b0:decide ((ji9) < (l0.length:Int))=true:=decide_eq_true c11;clear c11;have H':=am_ H;clear H;have p101:0≤((ji9):Int):=od_;have q101:(ji9) < (l0.length:Int):=od_;obtain⟨ad101,e101,hx101_0⟩:=Kd.at_int HR0.out (ji9) p101 q101;cases e101;replace p101:=eq_true p101;replace q101:=eq_true q101;go_wp2
          go_roundg k2
          case measure=>have:=HJ3.out;have:=HK2.out;omega
          case rel=>exact⟨(wrap64 ((wrap64 (31 * x7_2))+(wrap64 (rd l0 (ji9))))),(wrap64 (x8_2+1)),(by first|rfl|(simp;done)|(simp only [← hji9]<;>(first|rfl|simp))|(simp [*];done)),re_,H',⟨by have:=HJ3.out;have:=HK2.out;omega⟩,by repeat (first|exact Drawn0.refl _|apply Drawn0.step)⟩
         ·rw [if_neg c11]at H;exact absurd H (by simp)
        ·rw [if_neg c10]at H;exact absurd H (by simp)
      ·rw [if_neg c7]at H;have c7b0:decide (x8_2 < 3)=false:=decide_eq_false c7;clear c7
       by_cases c12:a2=0
       ·rw [if_pos c12]at H;exact absurd H (by simp)
       ·rw [if_neg c12]at H;have c12b0:(a2 == 0)=false:=beq_eq_false_iff_ne.mpr c12;have c12b1:(a2 != 0)=true:=bne_iff_ne.mpr c12;obtain rfl:=Option.some.inj H;go_wp2;go_ret;exact⟨by first|rfl|(simp;done)|(simp [*];done),by repeat (first|exact Drawn0.refl _|apply Drawn0.step)⟩

/-- A state of type 158 at block g of W; what its slices lead to came in by w0. -/
def IsS158 (w0 W:World) (g:Nat) (f0:List Int) (f1:Int) (f2:Int):Prop:=∃ A0 c0,W.heap[g]?=some (.cells #[.slice A0 f0.length c0,.int .i64 f1,.int .i64 f2] 158 (0,0))∧w0.heap.size≤g∧Kd.C (Kd.int .u8) w0 A0 f0.length f0
theorem IsS158.grown {w0 W:World} {g:Nat} {f0:List Int} {f1:Int} {f2:Int} {W1:World} {row:Option Nat} (h:IsS158 w0 W g f0 f1 f2) (hw:W.grownBy W1 row) (hne:some g≠row):IsS158 w0 W1 g f0 f1 f2:=by
 obtain⟨A0,c0,hb,hg,hr0⟩:=h;exact⟨A0,c0,blk_grown hb hw hne,hg,hr0⟩
theorem IsS158.own_neN {w0 W:World} {g:Nat} {f0:List Int} {f1:Int} {f2:Int} {α:Type} {d:Kd α} {e:Nat} {base:Nat} {ok:Nat→Prop} {v:Value} {xs:List α} (h:IsS158 w0 W g f0 f1 f2) (ho:Kd.N d e W base ok v xs) (ht:e≠158):some g≠v.ownBlock:=by
 obtain⟨A0,c0,hb,hg,hr0⟩:=h;exact Kd.N_ne ho hb ht
theorem IsS158.fresh {w0 W:World} {g:Nat} {f0:List Int} {f1:Int} {f2:Int} (h:IsS158 w0 W g f0 f1 f2):∀ k,W.heap.size≤k→k≠g:=by
 obtain⟨A0,c0,hb,hg,hr0⟩:=h;exact Kd.freshB hb
theorem IsS158.kept {w0 W:World} {g:Nat} {f0:List Int} {f1:Int} {f2:Int} {W1:World} {S:Nat→Prop} (h:IsS158 w0 W g f0 f1 f2) (hk:Kept W W1 S) (hne:¬ S g):IsS158 w0 W1 g f0 f1 f2:=by
 obtain⟨A0,c0,hb,hg,hr0⟩:=h;exact⟨A0,c0,blk_kept hb hk hne,hg,hr0⟩
theorem IsS158.below {w0 W:World} {g:Nat} {f0:List Int} {f1:Int} {f2:Int} {W1:World} (h:IsS158 w0 W g f0 f1 f2) (hw:Below W.heap.size W W1):IsS158 w0 W1 g f0 f1 f2:=h.grown (grown_of_below hw none) (by simp)
theorem IsS158.alloc {w0 W:World} {g:Nat} {f0:List Int} {f1:Int} {f2:Int} (h:IsS158 w0 W g f0 f1 f2) (o:Obj):IsS158 w0 (W.alloc o) g f0 f1 f2:=h.below (below_alloc (Below.refl _ _) o)
theorem IsS158.drewN {w0 W:World} {g:Nat} {f0:List Int} {f1:Int} {f2:Int} (h:IsS158 w0 W g f0 f1 f2) (m:Nat):IsS158 w0 (W.drewN m) g f0 f1 f2:=h
theorem IsS158.drew {w0 W:World} {g:Nat} {f0:List Int} {f1:Int} {f2:Int} (h:IsS158 w0 W g f0 f1 f2):IsS158 w0 W.drew g f0 f1 f2:=h
theorem IsS158.at_ {w0 W:World} {g:Nat} {f0:List Int} {f1:Int} {f2:Int} {w':World} {m:Nat} (hq:W.drewN m=w') (h:IsS158 w0 W g f0 f1 f2):IsS158 w0 w' g f0 f1 f2:=by subst hq;exact IsS158.drewN h m
theorem IsS158.apart {w0 W:World} {g:Nat} {f0:List Int} {f1:Int} {f2:Int} {α:Type} {d:Kd α} {e:Nat} {base:Nat} {ok:Nat→Prop} {v:Value} {xs:List α} (h:IsS158 w0 W g f0 f1 f2) (ho:d.R e W base ok v xs) (ht:∀ q,q ∈ e :: d.E→q≠158):d.R e W base (fun k=>ok k∧k≠g) v xs:=by
 obtain⟨A0,c0,hb,hg,hr0⟩:=h;exact Kd.R_types ho hb ht
theorem IsS158.own_ne {w0 W:World} {g:Nat} {f0:List Int} {f1:Int} {f2:Int} {α:Type} {d:Kd α} {e:Nat} {base:Nat} {ok:Nat→Prop} {v:Value} {xs:List α} (h:IsS158 w0 W g f0 f1 f2) (ho:d.R e W base ok v xs) (ht:e≠158):some g≠v.ownBlock:=by
 obtain⟨A0,c0,hb,hg,hr0⟩:=h;exact Kd.R_ne ho hb ht
theorem IsS158.apartQ {w0 W:World} {g:Nat} {f0:List Int} {f1:Int} {f2:Int} {α:Type} {d:Kd α} {e:Nat} {base:Nat} {ok:Nat→Prop} {v:Value} {xs:List α} (h:IsS158 w0 W g f0 f1 f2) (ho:d.Q e W base ok v xs) (ht:∀ q,q ∈ e :: d.E→q≠158):d.Q e W base (fun k=>ok k∧k≠g) v xs:=by
 obtain⟨A0,c0,hb,hg,hr0⟩:=h;exact Kd.Q_types ho hb ht
theorem IsS158.own_neQ {w0 W:World} {g:Nat} {f0:List Int} {f1:Int} {f2:Int} {α:Type} {d:Kd α} {e:Nat} {base:Nat} {ok:Nat→Prop} {v:Value} {xs:List α} (h:IsS158 w0 W g f0 f1 f2) (ho:d.Q e W base ok v xs) (ht:e≠158):some g≠v.ownBlock:=by
 obtain⟨A0,c0,hb,hg,hr0⟩:=h;exact Kd.Q_ne ho hb ht
theorem IsS158.apartS {w0 W:World} {g:Nat} {f0:List Int} {f1:Int} {f2:Int} {α:Type} {d:Kd α} {e:Nat} {base:Nat} {ok:Nat→Prop} {v:Value} {xs:List α} (h:IsS158 w0 W g f0 f1 f2) (ho:d.S e W base ok v xs) (ht:∀ q,q ∈ e :: d.E→q≠158):d.S e W base (fun k=>ok k∧k≠g) v xs:=by
 obtain⟨A0,c0,hb,hg,hr0⟩:=h;exact Kd.S_types ho hb ht
theorem IsS158.own_neS {w0 W:World} {g:Nat} {f0:List Int} {f1:Int} {f2:Int} {α:Type} {d:Kd α} {e:Nat} {base:Nat} {ok:Nat→Prop} {v:Value} {xs:List α} (h:IsS158 w0 W g f0 f1 f2) (ho:d.S e W base ok v xs) (ht:e≠158):some g≠v.ownBlock:=by
 obtain⟨A0,c0,hb,hg,hr0⟩:=h;exact Kd.S_ne ho hb ht
theorem IsS158.lt {w0 W:World} {g:Nat} {f0:List Int} {f1:Int} {f2:Int} (h:IsS158 w0 W g f0 f1 f2):g < W.heap.size:=by
 obtain⟨A0,c0,hb,hg,hr0⟩:=h;exact blk_lt hb
theorem IsS158.ge {w0 W:World} {g:Nat} {f0:List Int} {f1:Int} {f2:Int} (h:IsS158 w0 W g f0 f1 f2):w0.heap.size≤g:=by
 obtain⟨A0,c0,hb,hg,hr0⟩:=h;exact hg
theorem IsS158.ne_blk {w0 W:World} {g:Nat} {f0:List Int} {f1:Int} {f2:Int} {a:Nat} {cs:Array Value} {t:TypeId} {fr:Nat × Nat} (h:IsS158 w0 W g f0 f1 f2) (hb2:W.heap[a]?=some (.cells cs t fr)) (ht:t≠158):g≠a:=by
 obtain⟨A0,c0,hb,hg,hr0⟩:=h;rintro rfl;rw [hb]at hb2;injection hb2 with hb2;injection hb2 with _ ht2;exact ht ht2.symm
theorem IsS158.far {w0 W:World} {g:Nat} {f0:List Int} {f1:Int} {f2:Int} {p:Addr} (h:IsS158 w0 W g f0 f1 f2) (hne:g≠p.block) (u:Value):IsS158 w0 (W.setCell p u) g f0 f1 f2:=by
 obtain⟨A0,c0,hb,hg,hr0⟩:=h;exact⟨A0,c0,blk_far hb hne u,hg,hr0⟩
theorem cellS158_0 {W:World} {g:Nat} {A0:Option Addr} {c0:Nat} {f0:List Int} {f1:Int} {f2:Int} (h:W.heap[g]?=some (.cells #[.slice A0 f0.length c0,.int .i64 f1,.int .i64 f2] 158 (0,0))):W.cell? ⟨g,0,none⟩=some (.slice A0 f0.length c0):=(blk_cell h 0).trans rfl
theorem cellS158_1 {W:World} {g:Nat} {A0:Option Addr} {c0:Nat} {f0:List Int} {f1:Int} {f2:Int} (h:W.heap[g]?=some (.cells #[.slice A0 f0.length c0,.int .i64 f1,.int .i64 f2] 158 (0,0))):W.cell? ⟨g,1,none⟩=some (.int .i64 f1):=(blk_cell h 1).trans rfl
theorem IsS158.set_1 {w0 W:World} {g:Nat} {f0:List Int} {f1:Int} {f2:Int} (h:IsS158 w0 W g f0 f1 f2) (x:Int):IsS158 w0 (W.setCell ⟨g,1,none⟩ (.int .i64 x)) g f0 x f2:=by
 obtain⟨A0,c0,hb,hg,hr0⟩:=h;exact⟨A0,c0,by simpa using blk_set hb 1 (.int .i64 x),hg,hr0⟩
theorem cellS158_2 {W:World} {g:Nat} {A0:Option Addr} {c0:Nat} {f0:List Int} {f1:Int} {f2:Int} (h:W.heap[g]?=some (.cells #[.slice A0 f0.length c0,.int .i64 f1,.int .i64 f2] 158 (0,0))):W.cell? ⟨g,2,none⟩=some (.int .i64 f2):=(blk_cell h 2).trans rfl
theorem IsS158.set_2 {w0 W:World} {g:Nat} {f0:List Int} {f1:Int} {f2:Int} (h:IsS158 w0 W g f0 f1 f2) (x:Int):IsS158 w0 (W.setCell ⟨g,2,none⟩ (.int .i64 x)) g f0 f1 x:=by
 obtain⟨A0,c0,hb,hg,hr0⟩:=h;exact⟨A0,c0,by simpa using blk_set hb 2 (.int .i64 x),hg,hr0⟩
theorem hi158_ {p q:Prop} (x:Aside0 q) (h:q→p:=by intro z_;repeat (first|(with_reducible first|exact z_|apply IsS158.alloc|apply IsS158.drewN|apply IsS158.drew|apply IsS158.set_1|apply IsS158.set_2|refine IsS158.far ?_ (Aside0.out (by assumption)) _)|exact z_)):p:=h x.out
theorem IsS158.new (w0 W:World) (A0:Option Addr) (c0:Nat) (f0:List Int) (f1:Int) (f2:Int) (hB:Below w0.heap.size w0 W) (hr0:Kd.C (Kd.int .u8) w0 A0 f0.length f0):IsS158 w0 (W.alloc (.cells #[.slice A0 f0.length c0,.int .i64 f1,.int .i64 f2] 158)) W.heap.size f0 f1 f2:=⟨A0,c0,by simpa using heap_alloc_new W _,hB.size,hr0⟩

/-! ### spec_l01Open: function 55 -/
def spec_l01Open.f (l0:List Int):Option (List Int × Int × Int):=some (l0,0,71+((l0.length:Int) % 1000))
set_option maxHeartbeats 80000000 in
set_option maxRecDepth 100000 in
theorem spec_l01Open.calls (A0:Option Addr) (c0:Nat) (l0:List Int) (r1:List Int) (r2:Int) (r3:Int) (w0 w:World) (hB:Below w0.heap.size w0 w) (hr0:Kd.C (Kd.int .u8) w0 A0 l0.length l0) (hc0:l0.length≤c0) (h:spec_l01Open.f l0=some (r1,r2,r3)) :
  Calls Try.prog 55 #[.slice A0 l0.length c0] w fun e w'=>∃ g_:Nat,e=.returned (.pointer (some ⟨g_,0,none⟩))∧IsS158 w0 w' g_ r1 r2 r3∧Below w0.heap.size w0 w'∧Below w.heap.size w w':=by
 have hu158:=Try.underlying158;have HR0:=am_ hr0;have HC0:=am_ hc0;clear hr0 hc0;have HBW:=am_ (Below.refl w.heap.size w);have HW0:=am_ hB.size;have HB:=am_ hB;clear hB;have H:=h;clear h;unfold spec_l01Open.f at H;simp only [Option.some.injEq,Prod.mk.injEq]at H;obtain⟨rfl,rfl,rfl⟩:=H
 go_enter Try.func55,Try.ntmps55
 go_wp2_with (first|((with_reducible refine gd_ 9 rfl ?_);refine bv_ 9 #[.slice A0 l0.length c0,.int .i64 0,.int .i64 (71+((l0.length:Int) % 1000))] 158 ?_;intro gb102 hg w2 hbox hb;replace HB:=am_ (below_step (be_ HB) hb);have B102:=am_ (hbox);have GW102:=gw_ HBW hg;have GE102:=am_ ((Nat.le_trans HW0.out (by rw [hg];exact(below_size (be_ HBW)):w.heap.size≤gb102):w0.heap.size≤gb102));replace HBW:=am_ (below_step HBW.out hb);clear hb hbox hg));go_ret;exact⟨_,rfl,(show IsS158 w0 _ gb102 l0 0 (71+((l0.length:Int) % 1000)) from⟨_,_,bl_ B102,GE102.out,HR0.out⟩),bf_ HB,by repeat (first|(with_reducible first|exact HBW.out|apply below_alloc|apply pw_below_drewN|apply below_drew1|refine below_set ?_ GW102.out)|exact HBW.out)⟩

/-! ### spec_l01Cur_pick: function 57 -/
def spec_l01Cur_pick.f (s0_0:List Int) (s0_1:Int) (s0_2:Int) (a1:Int):Option (Int × Int × Int):=if a1 < 2 then(some (0,s0_1,s0_2)) else(if s0_1 < (s0_0.length:Int) then(if 0≤s0_1 then(if a1=0 then(none) else(some (Int.tmod (wrap64 (rd s0_0 s0_1)) a1,wrap64 (s0_1+1),s0_2))) else(none)) else(if (s0_0.length:Int) > 0 then(if (s0_0.length:Int)=0 then(none) else(if 0≤(Int.tmod s0_1 (s0_0.length:Int)) then(if (Int.tmod s0_1 (s0_0.length:Int)) < (s0_0.length:Int) then(if a1=0 then(none) else(some (Int.tmod (wrap64 ((wrap64 (Int.tdiv (Int.tmod (wrap64 ((wrap64 (s0_2 * 1103))+12345)) 65521) 7))+(wrap64 (rd s0_0 (Int.tmod s0_1 (s0_0.length:Int)))))) a1,wrap64 (s0_1+1),Int.tmod (wrap64 ((wrap64 (s0_2 * 1103))+12345)) 65521))) else(none)) else(none))) else(if a1=0 then(none) else(some ((0:Int) % a1,wrap64 (s0_1+1),Int.tmod (wrap64 ((wrap64 (s0_2 * 1103))+12345)) 65521)))))
set_option maxHeartbeats 80000000 in
set_option maxRecDepth 100000 in
theorem spec_l01Cur_pick.calls (g:Nat) (s0_0:List Int) (s0_1:Int) (s0_2:Int) (a1:Int) (r1:Int) (r2:Int) (r3:Int) (w0 w:World) (hI:IsS158 w0 w g s0_0 s0_1 s0_2) (hB:Below w0.heap.size w0 w) (h:spec_l01Cur_pick.f s0_0 s0_1 s0_2 a1=some (r1,r2,r3)) :
  Calls Try.prog 57 #[.pointer (some ⟨g,0,none⟩),.int .i64 a1] w fun e w'=>e=.returned (.int .i64 r1)∧IsS158 w0 w' g s0_0 r2 r3∧Below w0.heap.size w0 w'∧KeepBut w w' g none:=by
 have HI0:=am_ hI;have HK:=am_ (KeepBut.refl w g none);have HL:=am_ hB.size;have GL0:=am_ (IsS158.lt hI);clear hI;have HW0:=am_ hB.size;have HB:=am_ hB;clear hB;have H:=h;clear h;unfold spec_l01Cur_pick.f at H
 by_cases c3:a1 < 2
 ·rw [if_pos c3]at H;have c3b0:decide (a1 < 2)=true:=decide_eq_true c3;clear c3;simp only [Option.some.injEq,Prod.mk.injEq]at H;obtain⟨rfl,rfl,rfl⟩:=H
  go_enter Try.func57,Try.ntmps57
  go_wp2
  repeat (go_quiet (fail);try go_wp2)
  go_ret;exact⟨er_,hi158_ HI0,hbs_ HB (IsS158.ge HI0.out),hk_ HK⟩
 ·rw [if_neg c3]at H;have c3b0:decide (a1 < 2)=false:=decide_eq_false c3;clear c3
  by_cases c4:s0_1 < (s0_0.length:Int)
  ·rw [if_pos c4]at H;have c4b0:decide (s0_1 < (s0_0.length:Int))=true:=decide_eq_true c4;clear c4
   by_cases c5:0≤s0_1
   ·rw [if_pos c5]at H;have c5b0:decide (0≤s0_1)=true:=decide_eq_true c5;clear c5
    by_cases c6:a1=0
    ·rw [if_pos c6]at H;exact absurd H (by simp)
    ·rw [if_neg c6]at H;have c6b0:(a1 == 0)=false:=beq_eq_false_iff_ne.mpr c6;have c6b1:(a1 != 0)=true:=bne_iff_ne.mpr c6;simp only [Option.some.injEq,Prod.mk.injEq]at H;obtain⟨rfl,rfl,rfl⟩:=H;obtain⟨ASz7_0,cSz7_0,HGz7,hgz7,HSz7_0⟩:=HI0.out;have Z7_0:=cellS158_0 HGz7;have Z7_1:=cellS158_1 HGz7;have Z7_2:=cellS158_2 HGz7;have F7_1:=blk_frozen HGz7 1;have F7_2:=blk_frozen HGz7 2;clear HGz7 hgz7;have p103:0≤(s0_1:Int):=od_;have q103:s0_1 < (s0_0.length:Int):=od_;obtain⟨ad103,e103,hx103_0⟩:=Kd.at_int HSz7_0 s0_1 p103 q103;cases e103;replace hx103_0:=pw_cell_below HB.out hx103_0;replace p103:=eq_true p103;replace q103:=eq_true q103
     go_enter Try.func57,Try.ntmps57
     go_wp2
     repeat (go_quiet (fail);try go_wp2)
     go_ret;exact⟨er_,hi158_ HI0,hbs_ HB (IsS158.ge HI0.out),hk_ HK⟩
   ·rw [if_neg c5]at H;exact absurd H (by simp)
  ·rw [if_neg c4]at H;have c4b0:decide (s0_1 < (s0_0.length:Int))=false:=decide_eq_false c4;clear c4
   by_cases c8:(s0_0.length:Int) > 0
   ·rw [if_pos c8]at H;have c8b0:decide (0 < (s0_0.length:Int))=true:=decide_eq_true c8;have c8b1:decide (0 < s0_0.length)=true:=decide_eq_true (by omega);clear c8
    by_cases c9:(s0_0.length:Int)=0
    ·rw [if_pos c9]at H;exact absurd H (by simp)
    ·rw [if_neg c9]at H;have c9b0:((s0_0.length:Int) == 0)=false:=beq_eq_false_iff_ne.mpr c9;have c9b1:((s0_0.length:Int) != 0)=true:=bne_iff_ne.mpr c9;have c9b2:¬ (s0_0=[]):=fun h_=>c9 (by rw [h_];rfl);obtain⟨ji10,hji10⟩:∃ j_:Int,(Int.tmod s0_1 (s0_0.length:Int))=j_:=⟨_,rfl⟩;replace H:(if 0≤(ji10) then(if (ji10) < (s0_0.length:Int) then(if a1=0 then(none) else(some (Int.tmod (wrap64 ((wrap64 (Int.tdiv (Int.tmod (wrap64 ((wrap64 (s0_2 * 1103))+12345)) 65521) 7))+(wrap64 (rd s0_0 (ji10))))) a1,wrap64 (s0_1+1),Int.tmod (wrap64 ((wrap64 (s0_2 * 1103))+12345)) 65521))) else(none)) else(none))=some (r1,r2,r3):=(by first|(rw [hji10]at H;exact H)|(simp only [hji10]at H ⊢;exact H))
     by_cases c11:0≤(ji10)
     ·rw [if_pos c11]at H;have c11b0:decide (0≤(ji10))=true:=decide_eq_true c11;clear c11
      by_cases c12:(ji10) < (s0_0.length:Int)
      ·rw [if_pos c12]at H;have c12b0:decide ((ji10) < (s0_0.length:Int))=true:=decide_eq_true c12;clear c12
       by_cases c13:a1=0
       ·rw [if_pos c13]at H;exact absurd H (by simp)
       ·rw [if_neg c13]at H;have c13b0:(a1 == 0)=false:=beq_eq_false_iff_ne.mpr c13;have c13b1:(a1 != 0)=true:=bne_iff_ne.mpr c13;simp only [Option.some.injEq,Prod.mk.injEq]at H;obtain⟨rfl,rfl,rfl⟩:=H;obtain⟨ASz14_0,cSz14_0,HGz14,hgz14,HSz14_0⟩:=HI0.out;have Z14_0:=cellS158_0 HGz14;have Z14_1:=cellS158_1 HGz14;have Z14_2:=cellS158_2 HGz14;have F14_1:=blk_frozen HGz14 1;have F14_2:=blk_frozen HGz14 2;clear HGz14 hgz14;have p104:0≤((ji10):Int):=od_;have q104:(ji10) < (s0_0.length:Int):=od_;obtain⟨ad104,e104,hx104_0⟩:=Kd.at_int HSz14_0 (ji10) p104 q104;cases e104;have hn104_0:ad104.block≠g:=Nat.ne_of_lt (Nat.lt_of_lt_of_le (by have:=World.block_lt_of_cell? _ _ hx104_0;first|rwa [add_block]at this|exact this) (IsS158.ge HI0.out));replace hx104_0:=pw_cell_below HB.out hx104_0;replace hx104_0:=(cell_far (p:=⟨g,2,none⟩) (by first|(rw [add_block];exact hn104_0)|(show (Addr.add _ _).block≠_;rw [add_block];exact hn104_0)|exact hn104_0) (.int .i64 (Int.tmod (wrap64 ((wrap64 (s0_2 * 1103))+12345)) 65521))).trans hx104_0;(try have hy104_0:=fun (n_:Nat)=>(show (((w.drewN n_).setCell ⟨g,2,none⟩ (.int .i64 (Int.tmod (wrap64 ((wrap64 (s0_2 * 1103))+12345)) 65521)))).cell? _=some _ from hx104_0));clear hn104_0;replace p104:=eq_true p104;replace q104:=eq_true q104
        go_enter Try.func57,Try.ntmps57
        go_wp2
        repeat (go_quiet (fail);try go_wp2)
        go_ret;exact⟨by first|rfl|(simp [errW_none,errW_some]<;>rfl)|(simp only [← hji10];first|rfl|(simp [errW_none,errW_some]<;>rfl))|(simp [*,errW_none,errW_some]<;>rfl),hi158_ HI0,hbs_ HB (IsS158.ge HI0.out),hk_ HK⟩
      ·rw [if_neg c12]at H;exact absurd H (by simp)
     ·rw [if_neg c11]at H;exact absurd H (by simp)
   ·rw [if_neg c8]at H;have c8b0:decide (0 < (s0_0.length:Int))=false:=decide_eq_false c8;have c8b1:decide (0 < s0_0.length)=false:=decide_eq_false (by omega);clear c8
    by_cases c15:a1=0
    ·rw [if_pos c15]at H;exact absurd H (by simp)
    ·rw [if_neg c15]at H;have c15b0:(a1 == 0)=false:=beq_eq_false_iff_ne.mpr c15;have c15b1:(a1 != 0)=true:=bne_iff_ne.mpr c15;simp only [Option.some.injEq,Prod.mk.injEq]at H;obtain⟨rfl,rfl,rfl⟩:=H;obtain⟨ASz16_0,cSz16_0,HGz16,hgz16,HSz16_0⟩:=HI0.out;have Z16_0:=cellS158_0 HGz16;have Z16_1:=cellS158_1 HGz16;have Z16_2:=cellS158_2 HGz16;have F16_1:=blk_frozen HGz16 1;have F16_2:=blk_frozen HGz16 2;clear HGz16 hgz16
     go_enter Try.func57,Try.ntmps57
     go_wp2
     repeat (go_quiet (fail);try go_wp2)
     go_ret;exact⟨er_,hi158_ HI0,hbs_ HB (IsS158.ge HI0.out),hk_ HK⟩

/-! ### spec_l01Cur_kind: function 67 -/
def spec_l01Cur_kind.f (s0_0:List Int) (s0_1:Int) (s0_2:Int):Option (Int × Int × Int):=(some (([4,4,6]:List Int):List Int)).bind fun y105=>((spec_l01Cur_pick.f s0_0 s0_1 s0_2 3).bind fun bt108=>(if 0≤bt108.1 then(if bt108.1 < (y105.length:Int) then(some (rd y105 bt108.1,bt108.2.1,bt108.2.2)) else(none)) else(none)))
set_option maxHeartbeats 80000000 in
set_option maxRecDepth 100000 in
theorem spec_l01Cur_kind.calls (g:Nat) (s0_0:List Int) (s0_1:Int) (s0_2:Int) (r1:Int) (r2:Int) (r3:Int) (w0 w:World) (hI:IsS158 w0 w g s0_0 s0_1 s0_2) (hB:Below w0.heap.size w0 w) (h:spec_l01Cur_kind.f s0_0 s0_1 s0_2=some (r1,r2,r3)) :
  Calls Try.prog 67 #[.pointer (some ⟨g,0,none⟩)] w fun e w'=>e=.returned (.int .i64 r1)∧IsS158 w0 w' g s0_0 r2 r3∧Below w0.heap.size w0 w'∧KeepBut w w' g none:=by
 have HI0:=am_ hI;have HK:=am_ (KeepBut.refl w g none);have HL:=am_ hB.size;have GL0:=am_ (IsS158.lt hI);clear hI;have HW0:=am_ hB.size;have HB:=am_ hB;clear hB;have H:=h;clear h;unfold spec_l01Cur_kind.f at H;obtain⟨y105,hy105⟩:∃ y_:List Int,y_=(([4,4,6]:List Int)):=⟨_,rfl⟩;replace H:((spec_l01Cur_pick.f s0_0 s0_1 s0_2 3).bind fun bt108=>(if 0≤bt108.1 then(if bt108.1 < (y105.length:Int) then(some (rd y105 bt108.1,bt108.2.1,bt108.2.2)) else(none)) else(none)))=some (r1,r2,r3):=(by first|(rw [hy105];with_reducible exact H)|(have H2_:=(Option.bind_some _ _).symm.trans H;rw [hy105];with_reducible exact H2_)|(have H2_:=(Option.bind_some _ _).symm.trans H;with_reducible exact H2_)|with_reducible exact H|(rw [hy105];exact H)|exact H);have Ny105:=am_ hy105;clear hy105;replace H:=bm1_ H;obtain⟨⟨t108,t109,t110⟩,A2,H⟩:=H
 by_cases c3:0≤t108
 ·rw [if_pos c3]at H;have c3b0:decide (0≤t108)=true:=decide_eq_true c3;clear c3
  by_cases c4:t108 < (y105.length:Int)
  ·rw [if_pos c4]at H;have c4b0:decide (t108 < (y105.length:Int))=true:=decide_eq_true c4;clear c4;simp only [Option.some.injEq,Prod.mk.injEq]at H;obtain⟨rfl,rfl,rfl⟩:=H
   go_enter Try.func67,Try.ntmps67
   go_wp2_with (first|((with_reducible refine gd_ 3 rfl ?_);refine Kd.R_lit (Kd.int .i64) _ 3 ?hg (N:=3) ?hd (xs:=([4,4,6]:List Int)) (inner:=[.int .i64 4,.int .i64 4,.int .i64 6]) (ok:=fun _=>True) (okp:=fun _=>True) ?hr ?hp (fun _ hk=>by first|exact hk|grind) trivial (Below.refl _ _) (Nat.le_refl _) (by simp) ?_;(case hd=>rfl);(case hg=>rfl);(case hr=>first|exact bsl_ (by rfl) (by kernel_rfl) info3 (by first|rfl|(go_simp;done)|(go_simp;rfl)) (by rfl) (by intro v hv;(repeat (rcases List.mem_cons.1 hv with rfl|hv;·rfl));cases hv)|(go_simp;done)|(go_simp;rfl));(case hp=>exact(Reps.one (show Kd.M (Kd.int .i64) _ _ _ 4 [.int .i64 4]from rfl) (Reps.one (show Kd.M (Kd.int .i64) _ _ _ 4 [.int .i64 4]from rfl) (Reps.one (show Kd.M (Kd.int .i64) _ _ _ 6 [.int .i64 6]from rfl) (Reps.none _ _)))));intro v106 w5 ho6 hb hg_ hnew_;clear hg_ hnew_;(first|rw [← Ny105.out]at ho6|(simp only [Int.reduceToNat]at ho6;rw [← Ny105.out]at ho6));have HO107:=am_ (Kd.R_lower ho6 (keep_size (w:=w) (g:=g) (row:=none) (hk_ HK)));replace HK:=am_ (KeepBut.trans (hk_ HK) (KeepBut.of_below hb g none) (.inl rfl));replace HB:=sc_ HB (IsS158.ge HI0.out) hb;replace HI0:=am_ (IsS158.below (hi158_ HI0) hb);clear hb ho6)|((with_reducible refine gc_ 57 rfl ?_);refine gk_ 5 Try.func57 (spec_l01Cur_pick.calls g s0_0 s0_1 s0_2 3 t108 t109 t110 w0 _ ?side1 ?side2 A2.out) ?_;(case side1=>exact hi158_ HI0);(case side2=>exact hbs_ HB (IsS158.ge HI0.out));rintro e w7 ⟨rfl,hi,hb,hk⟩;refine⟨_,rfl,?_⟩;replace HO107:=am_ (Kd.R_mono (Kd.R_keep (IsS158.apart (show IsS158 w0 _ g s0_0 s0_1 s0_2 from hi158_ HI0) (kr_ HO107) (by decide)) hk (fun _ h=>h.2)) (fun _ h=>h.1));replace HK:=am_ (KeepBut.trans (hk_ HK) hk (.inl rfl));replace HB:=am_ (hb);replace HI0:=am_ (hi);clear hb hk hi;obtain⟨Ao8,co8,eo8⟩:=Kd.R_slice HO107.out;subst eo8;have p111:0≤(t108:Int):=od_;have q111:t108 < (y105.length:Int):=od_;obtain⟨ad111,e111,hx111_0⟩:=Kd.at_int (Kd.R_reads' HO107.out).2.2 t108 p111 q111;cases e111;replace p111:=eq_true p111;replace q111:=eq_true q111));go_ret;exact⟨er_,hi158_ HI0,hbs_ HB (IsS158.ge HI0.out),hk_ HK⟩
  ·rw [if_neg c4]at H;exact absurd H (by simp)
 ·rw [if_neg c3]at H;exact absurd H (by simp)

/-! ### spec_l01Cur_wide: function 123 -/
def spec_l01Cur_wide.f (s0_0:List Int) (s0_1:Int) (s0_2:Int) (a1:Int):Option (Int × Int × Int):=(spec_l01Cur_pick.f s0_0 s0_1 s0_2 256).bind fun bt112=>((spec_l01Cur_pick.f s0_0 bt112.2.1 bt112.2.2 256).bind fun bt115=>((spec_l01Cur_pick.f s0_0 bt115.2.1 bt115.2.2 256).bind fun bt118=>(if a1=0 then(none) else(some (Int.tmod (wrap64 ((wrap64 ((wrap64 (65536 * bt112.1))+(wrap64 (256 * bt115.1))))+bt118.1)) a1,bt118.2.1,bt118.2.2)))))
set_option maxHeartbeats 80000000 in
set_option maxRecDepth 100000 in
theorem spec_l01Cur_wide.calls (g:Nat) (s0_0:List Int) (s0_1:Int) (s0_2:Int) (a1:Int) (r1:Int) (r2:Int) (r3:Int) (w0 w:World) (hI:IsS158 w0 w g s0_0 s0_1 s0_2) (hB:Below w0.heap.size w0 w) (h:spec_l01Cur_wide.f s0_0 s0_1 s0_2 a1=some (r1,r2,r3)) :
  Calls Try.prog 123 #[.pointer (some ⟨g,0,none⟩),.int .i64 a1] w fun e w'=>e=.returned (.int .i64 r1)∧IsS158 w0 w' g s0_0 r2 r3∧Below w0.heap.size w0 w'∧KeepBut w w' g none:=by
 have HI0:=am_ hI;have HK:=am_ (KeepBut.refl w g none);have HL:=am_ hB.size;have GL0:=am_ (IsS158.lt hI);clear hI;have HW0:=am_ hB.size;have HB:=am_ hB;clear hB;have H:=h;clear h;unfold spec_l01Cur_wide.f at H;replace H:=bm1_ H;obtain⟨⟨t112,t113,t114⟩,A3,H⟩:=H;replace H:=bm1_ H;obtain⟨⟨t115,t116,t117⟩,A4,H⟩:=H;replace H:=bm1_ H;obtain⟨⟨t118,t119,t120⟩,A5,H⟩:=H
 by_cases c6:a1=0
 ·rw [if_pos c6]at H;exact absurd H (by simp)
 ·rw [if_neg c6]at H;have c6b0:(a1 == 0)=false:=beq_eq_false_iff_ne.mpr c6;have c6b1:(a1 != 0)=true:=bne_iff_ne.mpr c6;simp only [Option.some.injEq,Prod.mk.injEq]at H;obtain⟨rfl,rfl,rfl⟩:=H
  go_enter Try.func123,Try.ntmps123
  go_wp2_with (first|((with_reducible refine gc_ 57 rfl ?_);refine gk_ 6 Try.func57 (spec_l01Cur_pick.calls g s0_0 s0_1 s0_2 256 t112 t113 t114 w0 _ ?side1 ?side2 A3.out) ?_;(case side1=>exact hi158_ HI0);(case side2=>exact hbs_ HB (IsS158.ge HI0.out));rintro e w7 ⟨rfl,hi,hb,hk⟩;refine⟨_,rfl,?_⟩;replace HK:=am_ (KeepBut.trans (hk_ HK) hk (.inl rfl));replace HB:=am_ (hb);replace HI0:=am_ (hi);clear hb hk hi)|((with_reducible refine gc_ 57 rfl ?_);refine gk_ 9 Try.func57 (spec_l01Cur_pick.calls g s0_0 t113 t114 256 t115 t116 t117 w0 _ ?side1 ?side2 A4.out) ?_;(case side1=>exact hi158_ HI0);(case side2=>exact hbs_ HB (IsS158.ge HI0.out));rintro e w8 ⟨rfl,hi,hb,hk⟩;refine⟨_,rfl,?_⟩;replace HK:=am_ (KeepBut.trans (hk_ HK) hk (.inl rfl));replace HB:=am_ (hb);replace HI0:=am_ (hi);clear hb hk hi)|((with_reducible refine gc_ 57 rfl ?_);refine gk_ 13 Try.func57 (spec_l01Cur_pick.calls g s0_0 t116 t117 256 t118 t119 t120 w0 _ ?side1 ?side2 A5.out) ?_;(case side1=>exact hi158_ HI0);(case side2=>exact hbs_ HB (IsS158.ge HI0.out));rintro e w9 ⟨rfl,hi,hb,hk⟩;refine⟨_,rfl,?_⟩;replace HK:=am_ (KeepBut.trans (hk_ HK) hk (.inl rfl));replace HB:=am_ (hb);replace HI0:=am_ (hi);clear hb hk hi));go_ret;exact⟨er_,hi158_ HI0,hbs_ HB (IsS158.ge HI0.out),hk_ HK⟩

end Go.Proofs.Ytlafobfjbkhioaa.PFnFourTold
