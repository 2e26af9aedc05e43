-- printed by a program of this session (wip/printx) out of the translation; Lean checks it
import Derived.Test.YtppmbdfbhahngaaVFnPickFirst
import Derived.Test.YtppmbdfbhahngaaPFnPickFirstx0
namespace Go.Proofs.Ytppmbdfbhahngaa.PFnPickFirst
open Go.RowKit Go.Proofs.YtppmbdfbhahngaaW.PrintWords Go.Proofs.YtppmbdfbhahngaaW.PrintLast Go.Proofs.YtppmbdfbhahngaaW.PrintMore
attribute [local go_sem] max2_int min2_int max_two min_two max_three min_three max_four min_four   -- for this text's walks alone
set_option linter.unusedVariables false
set_option linter.unusedSimpArgs false

/-- A state of type 88 at block g of W; what its slices lead to came in by w0. -/
def IsS88 (w0 W:World) (g:Nat) (f0:List Int) (f1:Int) (f2:Int):Prop:=∃ A0 c0,W.heap[g]?=some (.cells #[.slice A0 f0.length c0,.int .i64 f1,.int .i64 f2] 88 (0,0))∧w0.heap.size≤g∧Kd.C (Kd.int .u8) w0 A0 f0.length f0
theorem IsS88.grown {w0 W:World} {g:Nat} {f0:List Int} {f1:Int} {f2:Int} {W1:World} {row:Option Nat} (h:IsS88 w0 W g f0 f1 f2) (hw:W.grownBy W1 row) (hne:some g≠row):IsS88 w0 W1 g f0 f1 f2:=by
 obtain⟨A0,c0,hb,hg,hr0⟩:=h;exact⟨A0,c0,blk_grown hb hw hne,hg,hr0⟩
theorem IsS88.own_neN {w0 W:World} {g:Nat} {f0:List Int} {f1:Int} {f2:Int} {α:Type} {d:Kd α} {e:Nat} {base:Nat} {ok:Nat→Prop} {v:Value} {xs:List α} (h:IsS88 w0 W g f0 f1 f2) (ho:Kd.N d e W base ok v xs) (ht:e≠88):some g≠v.ownBlock:=by
 obtain⟨A0,c0,hb,hg,hr0⟩:=h;exact Kd.N_ne ho hb ht
theorem IsS88.fresh {w0 W:World} {g:Nat} {f0:List Int} {f1:Int} {f2:Int} (h:IsS88 w0 W g f0 f1 f2):∀ k,W.heap.size≤k→k≠g:=by
 obtain⟨A0,c0,hb,hg,hr0⟩:=h;exact Kd.freshB hb
theorem IsS88.kept {w0 W:World} {g:Nat} {f0:List Int} {f1:Int} {f2:Int} {W1:World} {S:Nat→Prop} (h:IsS88 w0 W g f0 f1 f2) (hk:Kept W W1 S) (hne:¬ S g):IsS88 w0 W1 g f0 f1 f2:=by
 obtain⟨A0,c0,hb,hg,hr0⟩:=h;exact⟨A0,c0,blk_kept hb hk hne,hg,hr0⟩
theorem IsS88.below {w0 W:World} {g:Nat} {f0:List Int} {f1:Int} {f2:Int} {W1:World} (h:IsS88 w0 W g f0 f1 f2) (hw:Below W.heap.size W W1):IsS88 w0 W1 g f0 f1 f2:=h.grown (grown_of_below hw none) (by simp)
theorem IsS88.alloc {w0 W:World} {g:Nat} {f0:List Int} {f1:Int} {f2:Int} (h:IsS88 w0 W g f0 f1 f2) (o:Obj):IsS88 w0 (W.alloc o) g f0 f1 f2:=h.below (below_alloc (Below.refl _ _) o)
theorem IsS88.drewN {w0 W:World} {g:Nat} {f0:List Int} {f1:Int} {f2:Int} (h:IsS88 w0 W g f0 f1 f2) (m:Nat):IsS88 w0 (W.drewN m) g f0 f1 f2:=h
theorem IsS88.drew {w0 W:World} {g:Nat} {f0:List Int} {f1:Int} {f2:Int} (h:IsS88 w0 W g f0 f1 f2):IsS88 w0 W.drew g f0 f1 f2:=h
theorem IsS88.at_ {w0 W:World} {g:Nat} {f0:List Int} {f1:Int} {f2:Int} {w':World} {m:Nat} (hq:W.drewN m=w') (h:IsS88 w0 W g f0 f1 f2):IsS88 w0 w' g f0 f1 f2:=by subst hq;exact IsS88.drewN h m
theorem IsS88.apart {w0 W:World} {g:Nat} {f0:List Int} {f1:Int} {f2:Int} {α:Type} {d:Kd α} {e:Nat} {base:Nat} {ok:Nat→Prop} {v:Value} {xs:List α} (h:IsS88 w0 W g f0 f1 f2) (ho:d.R e W base ok v xs) (ht:∀ q,q ∈ e :: d.E→q≠88):d.R e W base (fun k=>ok k∧k≠g) v xs:=by
 obtain⟨A0,c0,hb,hg,hr0⟩:=h;exact Kd.R_types ho hb ht
theorem IsS88.own_ne {w0 W:World} {g:Nat} {f0:List Int} {f1:Int} {f2:Int} {α:Type} {d:Kd α} {e:Nat} {base:Nat} {ok:Nat→Prop} {v:Value} {xs:List α} (h:IsS88 w0 W g f0 f1 f2) (ho:d.R e W base ok v xs) (ht:e≠88):some g≠v.ownBlock:=by
 obtain⟨A0,c0,hb,hg,hr0⟩:=h;exact Kd.R_ne ho hb ht
theorem IsS88.apartQ {w0 W:World} {g:Nat} {f0:List Int} {f1:Int} {f2:Int} {α:Type} {d:Kd α} {e:Nat} {base:Nat} {ok:Nat→Prop} {v:Value} {xs:List α} (h:IsS88 w0 W g f0 f1 f2) (ho:d.Q e W base ok v xs) (ht:∀ q,q ∈ e :: d.E→q≠88):d.Q e W base (fun k=>ok k∧k≠g) v xs:=by
 obtain⟨A0,c0,hb,hg,hr0⟩:=h;exact Kd.Q_types ho hb ht
theorem IsS88.own_neQ {w0 W:World} {g:Nat} {f0:List Int} {f1:Int} {f2:Int} {α:Type} {d:Kd α} {e:Nat} {base:Nat} {ok:Nat→Prop} {v:Value} {xs:List α} (h:IsS88 w0 W g f0 f1 f2) (ho:d.Q e W base ok v xs) (ht:e≠88):some g≠v.ownBlock:=by
 obtain⟨A0,c0,hb,hg,hr0⟩:=h;exact Kd.Q_ne ho hb ht
theorem IsS88.apartS {w0 W:World} {g:Nat} {f0:List Int} {f1:Int} {f2:Int} {α:Type} {d:Kd α} {e:Nat} {base:Nat} {ok:Nat→Prop} {v:Value} {xs:List α} (h:IsS88 w0 W g f0 f1 f2) (ho:d.S e W base ok v xs) (ht:∀ q,q ∈ e :: d.E→q≠88):d.S e W base (fun k=>ok k∧k≠g) v xs:=by
 obtain⟨A0,c0,hb,hg,hr0⟩:=h;exact Kd.S_types ho hb ht
theorem IsS88.own_neS {w0 W:World} {g:Nat} {f0:List Int} {f1:Int} {f2:Int} {α:Type} {d:Kd α} {e:Nat} {base:Nat} {ok:Nat→Prop} {v:Value} {xs:List α} (h:IsS88 w0 W g f0 f1 f2) (ho:d.S e W base ok v xs) (ht:e≠88):some g≠v.ownBlock:=by
 obtain⟨A0,c0,hb,hg,hr0⟩:=h;exact Kd.S_ne ho hb ht
theorem IsS88.lt {w0 W:World} {g:Nat} {f0:List Int} {f1:Int} {f2:Int} (h:IsS88 w0 W g f0 f1 f2):g < W.heap.size:=by
 obtain⟨A0,c0,hb,hg,hr0⟩:=h;exact blk_lt hb
theorem IsS88.ge {w0 W:World} {g:Nat} {f0:List Int} {f1:Int} {f2:Int} (h:IsS88 w0 W g f0 f1 f2):w0.heap.size≤g:=by
 obtain⟨A0,c0,hb,hg,hr0⟩:=h;exact hg
theorem IsS88.ne_blk {w0 W:World} {g:Nat} {f0:List Int} {f1:Int} {f2:Int} {a:Nat} {cs:Array Value} {t:TypeId} {fr:Nat × Nat} (h:IsS88 w0 W g f0 f1 f2) (hb2:W.heap[a]?=some (.cells cs t fr)) (ht:t≠88):g≠a:=by
 obtain⟨A0,c0,hb,hg,hr0⟩:=h;rintro rfl;rw [hb]at hb2;injection hb2 with hb2;injection hb2 with _ ht2;exact ht ht2.symm
theorem IsS88.far {w0 W:World} {g:Nat} {f0:List Int} {f1:Int} {f2:Int} {p:Addr} (h:IsS88 w0 W g f0 f1 f2) (hne:g≠p.block) (u:Value):IsS88 w0 (W.setCell p u) g f0 f1 f2:=by
 obtain⟨A0,c0,hb,hg,hr0⟩:=h;exact⟨A0,c0,blk_far hb hne u,hg,hr0⟩
theorem cellS88_0 {W:World} {g:Nat} {A0:Option Addr} {c0:Nat} {f0:List Int} {f1:Int} {f2:Int} (h:W.heap[g]?=some (.cells #[.slice A0 f0.length c0,.int .i64 f1,.int .i64 f2] 88 (0,0))):W.cell? ⟨g,0,none⟩=some (.slice A0 f0.length c0):=(blk_cell h 0).trans rfl
theorem cellS88_1 {W:World} {g:Nat} {A0:Option Addr} {c0:Nat} {f0:List Int} {f1:Int} {f2:Int} (h:W.heap[g]?=some (.cells #[.slice A0 f0.length c0,.int .i64 f1,.int .i64 f2] 88 (0,0))):W.cell? ⟨g,1,none⟩=some (.int .i64 f1):=(blk_cell h 1).trans rfl
theorem IsS88.set_1 {w0 W:World} {g:Nat} {f0:List Int} {f1:Int} {f2:Int} (h:IsS88 w0 W g f0 f1 f2) (x:Int):IsS88 w0 (W.setCell ⟨g,1,none⟩ (.int .i64 x)) g f0 x f2:=by
 obtain⟨A0,c0,hb,hg,hr0⟩:=h;exact⟨A0,c0,by simpa using blk_set hb 1 (.int .i64 x),hg,hr0⟩
theorem cellS88_2 {W:World} {g:Nat} {A0:Option Addr} {c0:Nat} {f0:List Int} {f1:Int} {f2:Int} (h:W.heap[g]?=some (.cells #[.slice A0 f0.length c0,.int .i64 f1,.int .i64 f2] 88 (0,0))):W.cell? ⟨g,2,none⟩=some (.int .i64 f2):=(blk_cell h 2).trans rfl
theorem IsS88.set_2 {w0 W:World} {g:Nat} {f0:List Int} {f1:Int} {f2:Int} (h:IsS88 w0 W g f0 f1 f2) (x:Int):IsS88 w0 (W.setCell ⟨g,2,none⟩ (.int .i64 x)) g f0 f1 x:=by
 obtain⟨A0,c0,hb,hg,hr0⟩:=h;exact⟨A0,c0,by simpa using blk_set hb 2 (.int .i64 x),hg,hr0⟩
theorem hi88_ {p q:Prop} (x:Aside0 q) (h:q→p:=by intro z_;repeat (first|(with_reducible first|exact z_|apply IsS88.alloc|apply IsS88.drewN|apply IsS88.drew|apply IsS88.set_1|apply IsS88.set_2|refine IsS88.far ?_ (Aside0.out (by assumption)) _)|exact z_)):p:=h x.out
theorem IsS88.new (w0 W:World) (A0:Option Addr) (c0:Nat) (f0:List Int) (f1:Int) (f2:Int) (hB:Below w0.heap.size w0 W) (hr0:Kd.C (Kd.int .u8) w0 A0 f0.length f0):IsS88 w0 (W.alloc (.cells #[.slice A0 f0.length c0,.int .i64 f1,.int .i64 f2] 88)) W.heap.size f0 f1 f2:=⟨A0,c0,by simpa using heap_alloc_new W _,hB.size,hr0⟩

/-! ### spec_l01Open: function 47 -/
def spec_l01Open.f (l0:List Int):Option (List Int × Int × Int):=some (l0,0,71+((l0.length:Int) % 1000))
set_option maxHeartbeats 8000000 in
set_option maxRecDepth 100000 in
theorem spec_l01Open.calls (A0:Option Addr) (c0:Nat) (l0:List Int) (r1:List Int) (r2:Int) (r3:Int) (w0 w:World) (hB:Below w0.heap.size w0 w) (hr0:Kd.C (Kd.int .u8) w0 A0 l0.length l0) (hc0:l0.length≤c0) (h:spec_l01Open.f l0=some (r1,r2,r3)) :
  Calls Try.prog 47 #[.slice A0 l0.length c0] w fun e w'=>∃ g_:Nat,e=.returned (.pointer (some ⟨g_,0,none⟩))∧IsS88 w0 w' g_ r1 r2 r3∧Below w0.heap.size w0 w'∧Below w.heap.size w w':=by
 have hu88:=Try.underlying88;have HR0:=am_ hr0;have HC0:=am_ hc0;clear hr0 hc0;have HBW:=am_ (Below.refl w.heap.size w);have HW0:=am_ hB.size;have HB:=am_ hB;clear hB;have H:=h;clear h;unfold spec_l01Open.f at H;simp only [Option.some.injEq,Prod.mk.injEq]at H;obtain⟨rfl,rfl,rfl⟩:=H
 go_enter Try.func47,Try.ntmps47
 go_wp2_with (first|((with_reducible refine gd_ 9 rfl ?_);refine bv_ 9 #[.slice A0 l0.length c0,.int .i64 0,.int .i64 (71+((l0.length:Int) % 1000))] 88 ?_;intro gb340 hg w2 hbox hb;replace HB:=am_ (below_step (be_ HB) hb);have B340:=am_ (hbox);have GW340:=gw_ HBW hg;have GE340:=am_ ((Nat.le_trans HW0.out (by rw [hg];exact(below_size (be_ HBW)):w.heap.size≤gb340):w0.heap.size≤gb340));replace HBW:=am_ (below_step HBW.out hb);clear hb hbox hg));go_ret;exact⟨_,rfl,(show IsS88 w0 _ gb340 l0 0 (71+((l0.length:Int) % 1000)) from⟨_,_,bl_ B340,GE340.out,HR0.out⟩),bf_ HB,by repeat (first|(with_reducible first|exact HBW.out|apply below_alloc|apply pw_below_drewN|apply below_drew1|refine below_set ?_ GW340.out)|exact HBW.out)⟩

/-! ### spec_l01Cur_pick: function 64 -/
def spec_l01Cur_pick.f (s0_0:List Int) (s0_1:Int) (s0_2:Int) (a1:Int):Option (Int × Int × Int):=if a1 < 2 then(some (0,s0_1,s0_2)) else(if s0_1 < (s0_0.length:Int) then(if 0≤s0_1 then(if a1=0 then(none) else(some (Int.tmod (wrap64 (rd s0_0 s0_1)) a1,wrap64 (s0_1+1),s0_2))) else(none)) else(if (s0_0.length:Int) > 0 then(if (s0_0.length:Int)=0 then(none) else(if 0≤(Int.tmod s0_1 (s0_0.length:Int)) then(if (Int.tmod s0_1 (s0_0.length:Int)) < (s0_0.length:Int) then(if a1=0 then(none) else(some (Int.tmod (wrap64 ((wrap64 (Int.tdiv (Int.tmod (wrap64 ((wrap64 (s0_2 * 1103))+12345)) 65521) 7))+(wrap64 (rd s0_0 (Int.tmod s0_1 (s0_0.length:Int)))))) a1,wrap64 (s0_1+1),Int.tmod (wrap64 ((wrap64 (s0_2 * 1103))+12345)) 65521))) else(none)) else(none))) else(if a1=0 then(none) else(some ((0:Int) % a1,wrap64 (s0_1+1),Int.tmod (wrap64 ((wrap64 (s0_2 * 1103))+12345)) 65521)))))
set_option maxHeartbeats 8000000 in
set_option maxRecDepth 100000 in
theorem spec_l01Cur_pick.calls (g:Nat) (s0_0:List Int) (s0_1:Int) (s0_2:Int) (a1:Int) (r1:Int) (r2:Int) (r3:Int) (w0 w:World) (hI:IsS88 w0 w g s0_0 s0_1 s0_2) (hB:Below w0.heap.size w0 w) (h:spec_l01Cur_pick.f s0_0 s0_1 s0_2 a1=some (r1,r2,r3)) :
  Calls Try.prog 64 #[.pointer (some ⟨g,0,none⟩),.int .i64 a1] w fun e w'=>e=.returned (.int .i64 r1)∧IsS88 w0 w' g s0_0 r2 r3∧Below w0.heap.size w0 w'∧KeepBut w w' g none:=by
 have HI0:=am_ hI;have HK:=am_ (KeepBut.refl w g none);have HL:=am_ hB.size;clear hI;have HW0:=am_ hB.size;have HB:=am_ hB;clear hB;have H:=h;clear h;unfold spec_l01Cur_pick.f at H
 by_cases c3:a1 < 2
 ·rw [if_pos c3]at H;have c3b0:decide (a1 < 2)=true:=decide_eq_true c3;clear c3;simp only [Option.some.injEq,Prod.mk.injEq]at H;obtain⟨rfl,rfl,rfl⟩:=H
  go_enter Try.func64,Try.ntmps64
  go_wp2
  repeat (go_quiet (fail);try go_wp2)
  go_ret;exact⟨er_,hi88_ HI0,hbs_ HB (IsS88.ge HI0.out),hk_ HK⟩
 ·rw [if_neg c3]at H;have c3b0:decide (a1 < 2)=false:=decide_eq_false c3;clear c3
  by_cases c4:s0_1 < (s0_0.length:Int)
  ·rw [if_pos c4]at H;have c4b0:decide (s0_1 < (s0_0.length:Int))=true:=decide_eq_true c4;clear c4
   by_cases c5:0≤s0_1
   ·rw [if_pos c5]at H;have c5b0:decide (0≤s0_1)=true:=decide_eq_true c5;clear c5
    by_cases c6:a1=0
    ·rw [if_pos c6]at H;exact absurd H (by simp)
    ·rw [if_neg c6]at H;have c6b0:(a1 == 0)=false:=beq_eq_false_iff_ne.mpr c6;have c6b1:(a1 != 0)=true:=bne_iff_ne.mpr c6;simp only [Option.some.injEq,Prod.mk.injEq]at H;obtain⟨rfl,rfl,rfl⟩:=H;obtain⟨ASz7_0,cSz7_0,HGz7,hgz7,HSz7_0⟩:=HI0.out;have Z7_0:=cellS88_0 HGz7;have Z7_1:=cellS88_1 HGz7;have Z7_2:=cellS88_2 HGz7;have F7_1:=blk_frozen HGz7 1;have F7_2:=blk_frozen HGz7 2;clear HGz7 hgz7;have p341:0≤(s0_1:Int):=od_;have q341:s0_1 < (s0_0.length:Int):=od_;obtain⟨ad341,e341,hx341_0⟩:=Kd.at_int HSz7_0 s0_1 p341 q341;cases e341;replace hx341_0:=pw_cell_below HB.out hx341_0;replace p341:=eq_true p341;replace q341:=eq_true q341
     go_enter Try.func64,Try.ntmps64
     go_wp2
     repeat (go_quiet (fail);try go_wp2)
     go_ret;exact⟨er_,hi88_ HI0,hbs_ HB (IsS88.ge HI0.out),hk_ HK⟩
   ·rw [if_neg c5]at H;exact absurd H (by simp)
  ·rw [if_neg c4]at H;have c4b0:decide (s0_1 < (s0_0.length:Int))=false:=decide_eq_false c4;clear c4
   by_cases c8:(s0_0.length:Int) > 0
   ·rw [if_pos c8]at H;have c8b0:decide (0 < (s0_0.length:Int))=true:=decide_eq_true c8;have c8b1:decide (0 < s0_0.length)=true:=decide_eq_true (by omega);clear c8
    by_cases c9:(s0_0.length:Int)=0
    ·rw [if_pos c9]at H;exact absurd H (by simp)
    ·rw [if_neg c9]at H;have c9b0:((s0_0.length:Int) == 0)=false:=beq_eq_false_iff_ne.mpr c9;have c9b1:((s0_0.length:Int) != 0)=true:=bne_iff_ne.mpr c9;have c9b2:¬ (s0_0=[]):=fun h_=>c9 (by rw [h_];rfl);obtain⟨ji10,hji10⟩:∃ j_:Int,(Int.tmod s0_1 (s0_0.length:Int))=j_:=⟨_,rfl⟩;replace H:(if 0≤(ji10) then(if (ji10) < (s0_0.length:Int) then(if a1=0 then(none) else(some (Int.tmod (wrap64 ((wrap64 (Int.tdiv (Int.tmod (wrap64 ((wrap64 (s0_2 * 1103))+12345)) 65521) 7))+(wrap64 (rd s0_0 (ji10))))) a1,wrap64 (s0_1+1),Int.tmod (wrap64 ((wrap64 (s0_2 * 1103))+12345)) 65521))) else(none)) else(none))=some (r1,r2,r3):=(by first|(rw [hji10]at H;exact H)|(simp only [hji10]at H ⊢;exact H))
     by_cases c11:0≤(ji10)
     ·rw [if_pos c11]at H;have c11b0:decide (0≤(ji10))=true:=decide_eq_true c11;clear c11
      by_cases c12:(ji10) < (s0_0.length:Int)
      ·rw [if_pos c12]at H;have c12b0:decide ((ji10) < (s0_0.length:Int))=true:=decide_eq_true c12;clear c12
       by_cases c13:a1=0
       ·rw [if_pos c13]at H;exact absurd H (by simp)
       ·rw [if_neg c13]at H;have c13b0:(a1 == 0)=false:=beq_eq_false_iff_ne.mpr c13;have c13b1:(a1 != 0)=true:=bne_iff_ne.mpr c13;simp only [Option.some.injEq,Prod.mk.injEq]at H;obtain⟨rfl,rfl,rfl⟩:=H;obtain⟨ASz14_0,cSz14_0,HGz14,hgz14,HSz14_0⟩:=HI0.out;have Z14_0:=cellS88_0 HGz14;have Z14_1:=cellS88_1 HGz14;have Z14_2:=cellS88_2 HGz14;have F14_1:=blk_frozen HGz14 1;have F14_2:=blk_frozen HGz14 2;clear HGz14 hgz14;have p342:0≤((ji10):Int):=od_;have q342:(ji10) < (s0_0.length:Int):=od_;obtain⟨ad342,e342,hx342_0⟩:=Kd.at_int HSz14_0 (ji10) p342 q342;cases e342;have hn342_0:ad342.block≠g:=Nat.ne_of_lt (Nat.lt_of_lt_of_le (by have:=World.block_lt_of_cell? _ _ hx342_0;first|rwa [add_block]at this|exact this) (IsS88.ge HI0.out));replace hx342_0:=pw_cell_below HB.out hx342_0;replace hx342_0:=(cell_far (p:=⟨g,2,none⟩) (by first|(rw [add_block];exact hn342_0)|(show (Addr.add _ _).block≠_;rw [add_block];exact hn342_0)|exact hn342_0) (.int .i64 (Int.tmod (wrap64 ((wrap64 (s0_2 * 1103))+12345)) 65521))).trans hx342_0;(try have hy342_0:=fun (n_:Nat)=>(show (((w.drewN n_).setCell ⟨g,2,none⟩ (.int .i64 (Int.tmod (wrap64 ((wrap64 (s0_2 * 1103))+12345)) 65521)))).cell? _=some _ from hx342_0));clear hn342_0;replace p342:=eq_true p342;replace q342:=eq_true q342
        go_enter Try.func64,Try.ntmps64
        go_wp2
        repeat (go_quiet (fail);try go_wp2)
        go_ret;exact⟨by first|rfl|(simp [errW_none,errW_some]<;>rfl)|(simp only [← hji10];first|rfl|(simp [errW_none,errW_some]<;>rfl))|(simp [*,errW_none,errW_some]<;>rfl),hi88_ HI0,hbs_ HB (IsS88.ge HI0.out),hk_ HK⟩
      ·rw [if_neg c12]at H;exact absurd H (by simp)
     ·rw [if_neg c11]at H;exact absurd H (by simp)
   ·rw [if_neg c8]at H;have c8b0:decide (0 < (s0_0.length:Int))=false:=decide_eq_false c8;have c8b1:decide (0 < s0_0.length)=false:=decide_eq_false (by omega);clear c8
    by_cases c15:a1=0
    ·rw [if_pos c15]at H;exact absurd H (by simp)
    ·rw [if_neg c15]at H;have c15b0:(a1 == 0)=false:=beq_eq_false_iff_ne.mpr c15;have c15b1:(a1 != 0)=true:=bne_iff_ne.mpr c15;simp only [Option.some.injEq,Prod.mk.injEq]at H;obtain⟨rfl,rfl,rfl⟩:=H;obtain⟨ASz16_0,cSz16_0,HGz16,hgz16,HSz16_0⟩:=HI0.out;have Z16_0:=cellS88_0 HGz16;have Z16_1:=cellS88_1 HGz16;have Z16_2:=cellS88_2 HGz16;have F16_1:=blk_frozen HGz16 1;have F16_2:=blk_frozen HGz16 2;clear HGz16 hgz16
     go_enter Try.func64,Try.ntmps64
     go_wp2
     repeat (go_quiet (fail);try go_wp2)
     go_ret;exact⟨er_,hi88_ HI0,hbs_ HB (IsS88.ge HI0.out),hk_ HK⟩

end Go.Proofs.Ytppmbdfbhahngaa.PFnPickFirst
