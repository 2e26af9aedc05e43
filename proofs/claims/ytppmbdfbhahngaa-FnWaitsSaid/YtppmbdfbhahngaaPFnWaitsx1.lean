-- printed by a program of this session (wip/printx) out of the translation; Lean checks it
import Derived.Test.YtppmbdfbhahngaaVFnWaits
import Derived.Test.YtppmbdfbhahngaaPFnWaitsx0
namespace Go.Proofs.Ytppmbdfbhahngaa.PFnWaits
open Go.RowKit Go.Proofs.YtppmbdfbhahngaaW.PrintWords Go.Proofs.YtppmbdfbhahngaaW.PrintLast Go.Proofs.YtppmbdfbhahngaaW.PrintMore
attribute [local go_sem] max2_int min2_int max_two min_two max_three min_three max_four min_four   -- for this text's walks alone
set_option linter.unusedVariables false
set_option linter.unusedSimpArgs false

/-! ### laws_big: function 16 -/
def laws_big.f (l0:List Int):Option (Bool):=some (decide ((l0.length:Int) > 1048576))
set_option maxHeartbeats 8000000 in
set_option maxRecDepth 100000 in
theorem laws_big.calls (A0:Option Addr) (c0:Nat) (l0:List Int) (r:Bool) (w:World) (hr0:Kd.C (Kd.int .u8) w A0 l0.length l0) (hc0:l0.length≤c0) (h:laws_big.f l0=some r) :
  Calls Try.prog 16 #[.slice A0 l0.length c0] w fun e w'=>e=.returned (.bool r)∧Drawn0 w w':=by
 have HR0:=am_ hr0;have HC0:=am_ hc0;clear hr0 hc0;have H:=h;clear h;unfold laws_big.f at H;obtain rfl:=Option.some.inj H
 go_enter Try.func16,Try.ntmps16
 go_wp2;go_ret;exact⟨by first|rfl|(simp;done)|(simp [*];done),by repeat (first|exact Drawn0.refl _|apply Drawn0.step)⟩

/-- A state of type 88 at block g of W; what its slices lead to came in by w0. -/
def IsS88 (w0 W:World) (g:Nat) (f0:List Int) (f1:Int) (f2:Int):Prop:=∃ A0 c0,W.heap[g]?=some (.cells #[.slice A0 f0.length c0,.int .i64 f1,.int .i64 f2] 88 (0,0))∧w0.heap.size≤g∧Kd.C (Kd.int .u8) w0 A0 f0.length f0
theorem IsS88.grown {w0 W:World} {g:Nat} {f0:List Int} {f1:Int} {f2:Int} {W1:World} {row:Option Nat} (h:IsS88 w0 W g f0 f1 f2) (hw:W.grownBy W1 row) (hne:some g≠row):IsS88 w0 W1 g f0 f1 f2:=by
 obtain⟨A0,c0,hb,hg,hr0⟩:=h;exact⟨A0,c0,blk_grown hb hw hne,hg,hr0⟩
theorem IsS88.own_neN {w0 W:World} {g:Nat} {f0:List Int} {f1:Int} {f2:Int} {α:Type} {d:Kd α} {e:Nat} {base:Nat} {ok:Nat→Prop} {v:Value} {xs:List α} (h:IsS88 w0 W g f0 f1 f2) (ho:Kd.N d e W base ok v xs) (ht:e≠88):some g≠v.ownBlock:=by
 obtain⟨A0,c0,hb,hg,hr0⟩:=h;exact Kd.N_ne ho hb ht
theorem IsS88.fresh {w0 W:World} {g:Nat} {f0:List Int} {f1:Int} {f2:Int} (h:IsS88 w0 W g f0 f1 f2):∀ k,W.heap.size≤k→k≠g:=by
 obtain⟨A0,c0,hb,hg,hr0⟩:=h;exact Kd.freshB hb
theorem IsS88.kept {w0 W:World} {g:Nat} {f0:List Int} {f1:Int} {f2:Int} {W1:World} {S:Nat→Prop} (h:IsS88 w0 W g f0 f1 f2) (hk:Kept W W1 S) (hne:¬ S g):IsS88 w0 W1 g f0 f1 f2:=by
 obtain⟨A0,c0,hb,hg,hr0⟩:=h;exact⟨A0,c0,blk_kept hb hk hne,hg,hr0⟩
theorem IsS88.below {w0 W:World} {g:Nat} {f0:List Int} {f1:Int} {f2:Int} {W1:World} (h:IsS88 w0 W g f0 f1 f2) (hw:Below W.heap.size W W1):IsS88 w0 W1 g f0 f1 f2:=h.grown (grown_of_below hw none) (by simp)
theorem IsS88.alloc {w0 W:World} {g:Nat} {f0:List Int} {f1:Int} {f2:Int} (h:IsS88 w0 W g f0 f1 f2) (o:Obj):IsS88 w0 (W.alloc o) g f0 f1 f2:=h.below (below_alloc (Below.refl _ _) o)
theorem IsS88.drewN {w0 W:World} {g:Nat} {f0:List Int} {f1:Int} {f2:Int} (h:IsS88 w0 W g f0 f1 f2) (m:Nat):IsS88 w0 (W.drewN m) g f0 f1 f2:=h
theorem IsS88.drew {w0 W:World} {g:Nat} {f0:List Int} {f1:Int} {f2:Int} (h:IsS88 w0 W g f0 f1 f2):IsS88 w0 W.drew g f0 f1 f2:=h
theorem IsS88.at_ {w0 W:World} {g:Nat} {f0:List Int} {f1:Int} {f2:Int} {w':World} {m:Nat} (hq:W.drewN m=w') (h:IsS88 w0 W g f0 f1 f2):IsS88 w0 w' g f0 f1 f2:=by subst hq;exact IsS88.drewN h m
theorem IsS88.apart {w0 W:World} {g:Nat} {f0:List Int} {f1:Int} {f2:Int} {α:Type} {d:Kd α} {e:Nat} {base:Nat} {ok:Nat→Prop} {v:Value} {xs:List α} (h:IsS88 w0 W g f0 f1 f2) (ho:d.R e W base ok v xs) (ht:∀ q,q ∈ e :: d.E→q≠88):d.R e W base (fun k=>ok k∧k≠g) v xs:=by
 obtain⟨A0,c0,hb,hg,hr0⟩:=h;exact Kd.R_types ho hb ht
theorem IsS88.own_ne {w0 W:World} {g:Nat} {f0:List Int} {f1:Int} {f2:Int} {α:Type} {d:Kd α} {e:Nat} {base:Nat} {ok:Nat→Prop} {v:Value} {xs:List α} (h:IsS88 w0 W g f0 f1 f2) (ho:d.R e W base ok v xs) (ht:e≠88):some g≠v.ownBlock:=by
 obtain⟨A0,c0,hb,hg,hr0⟩:=h;exact Kd.R_ne ho hb ht
theorem IsS88.apartQ {w0 W:World} {g:Nat} {f0:List Int} {f1:Int} {f2:Int} {α:Type} {d:Kd α} {e:Nat} {base:Nat} {ok:Nat→Prop} {v:Value} {xs:List α} (h:IsS88 w0 W g f0 f1 f2) (ho:d.Q e W base ok v xs) (ht:∀ q,q ∈ e :: d.E→q≠88):d.Q e W base (fun k=>ok k∧k≠g) v xs:=by
 obtain⟨A0,c0,hb,hg,hr0⟩:=h;exact Kd.Q_types ho hb ht
theorem IsS88.own_neQ {w0 W:World} {g:Nat} {f0:List Int} {f1:Int} {f2:Int} {α:Type} {d:Kd α} {e:Nat} {base:Nat} {ok:Nat→Prop} {v:Value} {xs:List α} (h:IsS88 w0 W g f0 f1 f2) (ho:d.Q e W base ok v xs) (ht:e≠88):some g≠v.ownBlock:=by
 obtain⟨A0,c0,hb,hg,hr0⟩:=h;exact Kd.Q_ne ho hb ht
theorem IsS88.apartS {w0 W:World} {g:Nat} {f0:List Int} {f1:Int} {f2:Int} {α:Type} {d:Kd α} {e:Nat} {base:Nat} {ok:Nat→Prop} {v:Value} {xs:List α} (h:IsS88 w0 W g f0 f1 f2) (ho:d.S e W base ok v xs) (ht:∀ q,q ∈ e :: d.E→q≠88):d.S e W base (fun k=>ok k∧k≠g) v xs:=by
 obtain⟨A0,c0,hb,hg,hr0⟩:=h;exact Kd.S_types ho hb ht
theorem IsS88.own_neS {w0 W:World} {g:Nat} {f0:List Int} {f1:Int} {f2:Int} {α:Type} {d:Kd α} {e:Nat} {base:Nat} {ok:Nat→Prop} {v:Value} {xs:List α} (h:IsS88 w0 W g f0 f1 f2) (ho:d.S e W base ok v xs) (ht:e≠88):some g≠v.ownBlock:=by
 obtain⟨A0,c0,hb,hg,hr0⟩:=h;exact Kd.S_ne ho hb ht
theorem IsS88.lt {w0 W:World} {g:Nat} {f0:List Int} {f1:Int} {f2:Int} (h:IsS88 w0 W g f0 f1 f2):g < W.heap.size:=by
 obtain⟨A0,c0,hb,hg,hr0⟩:=h;exact blk_lt hb
theorem IsS88.ge {w0 W:World} {g:Nat} {f0:List Int} {f1:Int} {f2:Int} (h:IsS88 w0 W g f0 f1 f2):w0.heap.size≤g:=by
 obtain⟨A0,c0,hb,hg,hr0⟩:=h;exact hg
theorem IsS88.ne_blk {w0 W:World} {g:Nat} {f0:List Int} {f1:Int} {f2:Int} {a:Nat} {cs:Array Value} {t:TypeId} {fr:Nat × Nat} (h:IsS88 w0 W g f0 f1 f2) (hb2:W.heap[a]?=some (.cells cs t fr)) (ht:t≠88):g≠a:=by
 obtain⟨A0,c0,hb,hg,hr0⟩:=h;rintro rfl;rw [hb]at hb2;injection hb2 with hb2;injection hb2 with _ ht2;exact ht ht2.symm
theorem IsS88.far {w0 W:World} {g:Nat} {f0:List Int} {f1:Int} {f2:Int} {p:Addr} (h:IsS88 w0 W g f0 f1 f2) (hne:g≠p.block) (u:Value):IsS88 w0 (W.setCell p u) g f0 f1 f2:=by
 obtain⟨A0,c0,hb,hg,hr0⟩:=h;exact⟨A0,c0,blk_far hb hne u,hg,hr0⟩
theorem cellS88_0 {W:World} {g:Nat} {A0:Option Addr} {c0:Nat} {f0:List Int} {f1:Int} {f2:Int} (h:W.heap[g]?=some (.cells #[.slice A0 f0.length c0,.int .i64 f1,.int .i64 f2] 88 (0,0))):W.cell? ⟨g,0,none⟩=some (.slice A0 f0.length c0):=(blk_cell h 0).trans rfl
theorem cellS88_1 {W:World} {g:Nat} {A0:Option Addr} {c0:Nat} {f0:List Int} {f1:Int} {f2:Int} (h:W.heap[g]?=some (.cells #[.slice A0 f0.length c0,.int .i64 f1,.int .i64 f2] 88 (0,0))):W.cell? ⟨g,1,none⟩=some (.int .i64 f1):=(blk_cell h 1).trans rfl
theorem IsS88.set_1 {w0 W:World} {g:Nat} {f0:List Int} {f1:Int} {f2:Int} (h:IsS88 w0 W g f0 f1 f2) (x:Int):IsS88 w0 (W.setCell ⟨g,1,none⟩ (.int .i64 x)) g f0 x f2:=by
 obtain⟨A0,c0,hb,hg,hr0⟩:=h;exact⟨A0,c0,by simpa using blk_set hb 1 (.int .i64 x),hg,hr0⟩
theorem cellS88_2 {W:World} {g:Nat} {A0:Option Addr} {c0:Nat} {f0:List Int} {f1:Int} {f2:Int} (h:W.heap[g]?=some (.cells #[.slice A0 f0.length c0,.int .i64 f1,.int .i64 f2] 88 (0,0))):W.cell? ⟨g,2,none⟩=some (.int .i64 f2):=(blk_cell h 2).trans rfl
theorem IsS88.set_2 {w0 W:World} {g:Nat} {f0:List Int} {f1:Int} {f2:Int} (h:IsS88 w0 W g f0 f1 f2) (x:Int):IsS88 w0 (W.setCell ⟨g,2,none⟩ (.int .i64 x)) g f0 f1 x:=by
 obtain⟨A0,c0,hb,hg,hr0⟩:=h;exact⟨A0,c0,by simpa using blk_set hb 2 (.int .i64 x),hg,hr0⟩
theorem hi88_ {p q:Prop} (x:Aside0 q) (h:q→p:=by intro z_;repeat (first|(with_reducible first|exact z_|apply IsS88.alloc|apply IsS88.drewN|apply IsS88.drew|apply IsS88.set_1|apply IsS88.set_2|refine IsS88.far ?_ (Aside0.out (by assumption)) _)|exact z_)):p:=h x.out
theorem IsS88.new (w0 W:World) (A0:Option Addr) (c0:Nat) (f0:List Int) (f1:Int) (f2:Int) (hB:Below w0.heap.size w0 W) (hr0:Kd.C (Kd.int .u8) w0 A0 f0.length f0):IsS88 w0 (W.alloc (.cells #[.slice A0 f0.length c0,.int .i64 f1,.int .i64 f2] 88)) W.heap.size f0 f1 f2:=⟨A0,c0,by simpa using heap_alloc_new W _,hB.size,hr0⟩

/-! ### spec_l01Open: function 47 -/
def spec_l01Open.f (l0:List Int):Option (List Int × Int × Int):=some (l0,0,71+((l0.length:Int) % 1000))
set_option maxHeartbeats 8000000 in
set_option maxRecDepth 100000 in
theorem spec_l01Open.calls (A0:Option Addr) (c0:Nat) (l0:List Int) (r1:List Int) (r2:Int) (r3:Int) (w0 w:World) (hB:Below w0.heap.size w0 w) (hr0:Kd.C (Kd.int .u8) w0 A0 l0.length l0) (hc0:l0.length≤c0) (h:spec_l01Open.f l0=some (r1,r2,r3)) :
  Calls Try.prog 47 #[.slice A0 l0.length c0] w fun e w'=>∃ g_:Nat,e=.returned (.pointer (some ⟨g_,0,none⟩))∧IsS88 w0 w' g_ r1 r2 r3∧Below w0.heap.size w0 w'∧Below w.heap.size w w':=by
 have hu88:=Try.underlying88;have HR0:=am_ hr0;have HC0:=am_ hc0;clear hr0 hc0;have HBW:=am_ (Below.refl w.heap.size w);have HW0:=am_ hB.size;have HB:=am_ hB;clear hB;have H:=h;clear h;unfold spec_l01Open.f at H;simp only [Option.some.injEq,Prod.mk.injEq]at H;obtain⟨rfl,rfl,rfl⟩:=H
 go_enter Try.func47,Try.ntmps47
 go_wp2_with (first|((with_reducible refine gd_ 9 rfl ?_);refine bv_ 9 #[.slice A0 l0.length c0,.int .i64 0,.int .i64 (71+((l0.length:Int) % 1000))] 88 ?_;intro gb101 hg w2 hbox hb;replace HB:=am_ (below_step (be_ HB) hb);have B101:=am_ (hbox);have GW101:=gw_ HBW hg;have GE101:=am_ ((Nat.le_trans HW0.out (by rw [hg];exact(below_size (be_ HBW)):w.heap.size≤gb101):w0.heap.size≤gb101));replace HBW:=am_ (below_step HBW.out hb);clear hb hbox hg));go_ret;exact⟨_,rfl,(show IsS88 w0 _ gb101 l0 0 (71+((l0.length:Int) % 1000)) from⟨_,_,bl_ B101,GE101.out,HR0.out⟩),bf_ HB,by repeat (first|(with_reducible first|exact HBW.out|apply below_alloc|apply pw_below_drewN|apply below_drew1|refine below_set ?_ GW101.out)|exact HBW.out)⟩

/-! ### spec_VecTop: function 23 -/
def spec_VecTop.f (a0_0:Int) (a0_1:Int) (a0_2:Int):Option (Int):=some (mx (mx a0_0 a0_1) a0_2)
set_option maxHeartbeats 8000000 in
set_option maxRecDepth 100000 in
theorem spec_VecTop.calls (a0_0:Int) (a0_1:Int) (a0_2:Int) (r:Int) (w:World) (h:spec_VecTop.f a0_0 a0_1 a0_2=some r) :
  Calls Try.prog 23 #[.agg #[.int .i64 a0_0,.int .i64 a0_1,.int .i64 a0_2]] w fun e w'=>e=.returned (.int .i64 r)∧Below w.heap.size w w':=by
 have hu28:=Try.underlying28;have HB:=am_ (Below.refl w.heap.size w);have H:=h;clear h;unfold spec_VecTop.f at H;obtain⟨ji2,hji2⟩:∃ j_:Int,(mx a0_0 a0_1)=j_:=⟨_,rfl⟩;replace H:(some (mx (ji2) a0_2))=some r:=(by first|(rw [hji2]at H;exact H)|(simp only [hji2]at H ⊢;exact H));have hji2_:(if a0_0 < a0_1 then a0_1 else a0_0)=ji2:=hji2;obtain⟨ji3,hji3⟩:∃ j_:Int,(mx (ji2) a0_2)=j_:=⟨_,rfl⟩;replace H:(some ji3)=some r:=(by first|(rw [hji3]at H;exact H)|(simp only [hji3]at H ⊢;exact H));have hji3_:(if (ji2) < a0_2 then a0_2 else(ji2))=ji3:=hji3;obtain rfl:=Option.some.inj H
 go_enter Try.func23,Try.ntmps23
 go_wp2_with (first|((with_reducible refine gd_ 1 rfl ?_);refine bv_ 1 #[.int .i64 a0_0,.int .i64 a0_1,.int .i64 a0_2] 28 ?_;intro gb102 hg w4 hbox hb;have B102:=am_ (hbox);have GW102:=gw_ HB hg;have GE102:=gw_ HB hg;replace HB:=am_ (below_step (be_ HB) hb);clear hb hbox hg;obtain⟨Z5_0,Z5_1,Z5_2,F5_0,F5_1,F5_2⟩:=bz3_ B102));go_ret;exact⟨by first|rfl|(simp [errW_none,errW_some]<;>rfl)|(simp only [← hji2,← hji3];first|rfl|(simp [errW_none,errW_some]<;>rfl))|(simp [*,errW_none,errW_some]<;>rfl),bf_ HB⟩

/-! ### spec_l01Cur_pick: function 64 -/
def spec_l01Cur_pick.f (s0_0:List Int) (s0_1:Int) (s0_2:Int) (a1:Int):Option (Int × Int × Int):=if a1 < 2 then(some (0,s0_1,s0_2)) else(if s0_1 < (s0_0.length:Int) then(if 0≤s0_1 then(if a1=0 then(none) else(some (Int.tmod (wrap64 (rd s0_0 s0_1)) a1,wrap64 (s0_1+1),s0_2))) else(none)) else(if (s0_0.length:Int) > 0 then(if (s0_0.length:Int)=0 then(none) else(if 0≤(Int.tmod s0_1 (s0_0.length:Int)) then(if (Int.tmod s0_1 (s0_0.length:Int)) < (s0_0.length:Int) then(if a1=0 then(none) else(some (Int.tmod (wrap64 ((wrap64 (Int.tdiv (Int.tmod (wrap64 ((wrap64 (s0_2 * 1103))+12345)) 65521) 7))+(wrap64 (rd s0_0 (Int.tmod s0_1 (s0_0.length:Int)))))) a1,wrap64 (s0_1+1),Int.tmod (wrap64 ((wrap64 (s0_2 * 1103))+12345)) 65521))) else(none)) else(none))) else(if a1=0 then(none) else(some ((0:Int) % a1,wrap64 (s0_1+1),Int.tmod (wrap64 ((wrap64 (s0_2 * 1103))+12345)) 65521)))))
set_option maxHeartbeats 8000000 in
set_option maxRecDepth 100000 in
theorem spec_l01Cur_pick.calls (g:Nat) (s0_0:List Int) (s0_1:Int) (s0_2:Int) (a1:Int) (r1:Int) (r2:Int) (r3:Int) (w0 w:World) (hI:IsS88 w0 w g s0_0 s0_1 s0_2) (hB:Below w0.heap.size w0 w) (h:spec_l01Cur_pick.f s0_0 s0_1 s0_2 a1=some (r1,r2,r3)) :
  Calls Try.prog 64 #[.pointer (some ⟨g,0,none⟩),.int .i64 a1] w fun e w'=>e=.returned (.int .i64 r1)∧IsS88 w0 w' g s0_0 r2 r3∧Below w0.heap.size w0 w'∧KeepBut w w' g none:=by
 have HI0:=am_ hI;have HK:=am_ (KeepBut.refl w g none);have HL:=am_ hB.size;have GL0:=am_ (IsS88.lt hI);clear hI;have HW0:=am_ hB.size;have HB:=am_ hB;clear hB;have H:=h;clear h;unfold spec_l01Cur_pick.f at H
 by_cases c3:a1 < 2
 ·rw [if_pos c3]at H;have c3b0:decide (a1 < 2)=true:=decide_eq_true c3;clear c3;simp only [Option.some.injEq,Prod.mk.injEq]at H;obtain⟨rfl,rfl,rfl⟩:=H
  go_enter Try.func64,Try.ntmps64
  go_wp2
  repeat (go_quiet (fail);try go_wp2)
  go_ret;exact⟨er_,hi88_ HI0,hbs_ HB (IsS88.ge HI0.out),hk_ HK⟩
 ·rw [if_neg c3]at H;have c3b0:decide (a1 < 2)=false:=decide_eq_false c3;clear c3
  by_cases c4:s0_1 < (s0_0.length:Int)
  ·rw [if_pos c4]at H;have c4b0:decide (s0_1 < (s0_0.length:Int))=true:=decide_eq_true c4;clear c4
   by_cases c5:0≤s0_1
   ·rw [if_pos c5]at H;have c5b0:decide (0≤s0_1)=true:=decide_eq_true c5;clear c5
    by_cases c6:a1=0
    ·rw [if_pos c6]at H;exact absurd H (by simp)
    ·rw [if_neg c6]at H;have c6b0:(a1 == 0)=false:=beq_eq_false_iff_ne.mpr c6;have c6b1:(a1 != 0)=true:=bne_iff_ne.mpr c6;simp only [Option.some.injEq,Prod.mk.injEq]at H;obtain⟨rfl,rfl,rfl⟩:=H;obtain⟨ASz7_0,cSz7_0,HGz7,hgz7,HSz7_0⟩:=HI0.out;have Z7_0:=cellS88_0 HGz7;have Z7_1:=cellS88_1 HGz7;have Z7_2:=cellS88_2 HGz7;have F7_1:=blk_frozen HGz7 1;have F7_2:=blk_frozen HGz7 2;clear HGz7 hgz7;have p103:0≤(s0_1:Int):=od_;have q103:s0_1 < (s0_0.length:Int):=od_;obtain⟨ad103,e103,hx103_0⟩:=Kd.at_int HSz7_0 s0_1 p103 q103;cases e103;replace hx103_0:=pw_cell_below HB.out hx103_0;replace p103:=eq_true p103;replace q103:=eq_true q103
     go_enter Try.func64,Try.ntmps64
     go_wp2
     repeat (go_quiet (fail);try go_wp2)
     go_ret;exact⟨er_,hi88_ HI0,hbs_ HB (IsS88.ge HI0.out),hk_ HK⟩
   ·rw [if_neg c5]at H;exact absurd H (by simp)
  ·rw [if_neg c4]at H;have c4b0:decide (s0_1 < (s0_0.length:Int))=false:=decide_eq_false c4;clear c4
   by_cases c8:(s0_0.length:Int) > 0
   ·rw [if_pos c8]at H;have c8b0:decide (0 < (s0_0.length:Int))=true:=decide_eq_true c8;have c8b1:decide (0 < s0_0.length)=true:=decide_eq_true (by omega);clear c8
    by_cases c9:(s0_0.length:Int)=0
    ·rw [if_pos c9]at H;exact absurd H (by simp)
    ·rw [if_neg c9]at H;have c9b0:((s0_0.length:Int) == 0)=false:=beq_eq_false_iff_ne.mpr c9;have c9b1:((s0_0.length:Int) != 0)=true:=bne_iff_ne.mpr c9;have c9b2:¬ (s0_0=[]):=fun h_=>c9 (by rw [h_];rfl);obtain⟨ji10,hji10⟩:∃ j_:Int,(Int.tmod s0_1 (s0_0.length:Int))=j_:=⟨_,rfl⟩;replace H:(if 0≤(ji10) then(if (ji10) < (s0_0.length:Int) then(if a1=0 then(none) else(some (Int.tmod (wrap64 ((wrap64 (Int.tdiv (Int.tmod (wrap64 ((wrap64 (s0_2 * 1103))+12345)) 65521) 7))+(wrap64 (rd s0_0 (ji10))))) a1,wrap64 (s0_1+1),Int.tmod (wrap64 ((wrap64 (s0_2 * 1103))+12345)) 65521))) else(none)) else(none))=some (r1,r2,r3):=(by first|(rw [hji10]at H;exact H)|(simp only [hji10]at H ⊢;exact H))
     by_cases c11:0≤(ji10)
     ·rw [if_pos c11]at H;have c11b0:decide (0≤(ji10))=true:=decide_eq_true c11;clear c11
      by_cases c12:(ji10) < (s0_0.length:Int)
      ·rw [if_pos c12]at H;have c12b0:decide ((ji10) < (s0_0.length:Int))=true:=decide_eq_true c12;clear c12
       by_cases c13:a1=0
       ·rw [if_pos c13]at H;exact absurd H (by simp)
       ·rw [if_neg c13]at H;have c13b0:(a1 == 0)=false:=beq_eq_false_iff_ne.mpr c13;have c13b1:(a1 != 0)=true:=bne_iff_ne.mpr c13;simp only [Option.some.injEq,Prod.mk.injEq]at H;obtain⟨rfl,rfl,rfl⟩:=H;obtain⟨ASz14_0,cSz14_0,HGz14,hgz14,HSz14_0⟩:=HI0.out;have Z14_0:=cellS88_0 HGz14;have Z14_1:=cellS88_1 HGz14;have Z14_2:=cellS88_2 HGz14;have F14_1:=blk_frozen HGz14 1;have F14_2:=blk_frozen HGz14 2;clear HGz14 hgz14;have p104:0≤((ji10):Int):=od_;have q104:(ji10) < (s0_0.length:Int):=od_;obtain⟨ad104,e104,hx104_0⟩:=Kd.at_int HSz14_0 (ji10) p104 q104;cases e104;have hn104_0:ad104.block≠g:=Nat.ne_of_lt (Nat.lt_of_lt_of_le (by have:=World.block_lt_of_cell? _ _ hx104_0;first|rwa [add_block]at this|exact this) (IsS88.ge HI0.out));replace hx104_0:=pw_cell_below HB.out hx104_0;replace hx104_0:=(cell_far (p:=⟨g,2,none⟩) (by first|(rw [add_block];exact hn104_0)|(show (Addr.add _ _).block≠_;rw [add_block];exact hn104_0)|exact hn104_0) (.int .i64 (Int.tmod (wrap64 ((wrap64 (s0_2 * 1103))+12345)) 65521))).trans hx104_0;(try have hy104_0:=fun (n_:Nat)=>(show (((w.drewN n_).setCell ⟨g,2,none⟩ (.int .i64 (Int.tmod (wrap64 ((wrap64 (s0_2 * 1103))+12345)) 65521)))).cell? _=some _ from hx104_0));clear hn104_0;replace p104:=eq_true p104;replace q104:=eq_true q104
        go_enter Try.func64,Try.ntmps64
        go_wp2
        repeat (go_quiet (fail);try go_wp2)
        go_ret;exact⟨by first|rfl|(simp [errW_none,errW_some]<;>rfl)|(simp only [← hji10];first|rfl|(simp [errW_none,errW_some]<;>rfl))|(simp [*,errW_none,errW_some]<;>rfl),hi88_ HI0,hbs_ HB (IsS88.ge HI0.out),hk_ HK⟩
      ·rw [if_neg c12]at H;exact absurd H (by simp)
     ·rw [if_neg c11]at H;exact absurd H (by simp)
   ·rw [if_neg c8]at H;have c8b0:decide (0 < (s0_0.length:Int))=false:=decide_eq_false c8;have c8b1:decide (0 < s0_0.length)=false:=decide_eq_false (by omega);clear c8
    by_cases c15:a1=0
    ·rw [if_pos c15]at H;exact absurd H (by simp)
    ·rw [if_neg c15]at H;have c15b0:(a1 == 0)=false:=beq_eq_false_iff_ne.mpr c15;have c15b1:(a1 != 0)=true:=bne_iff_ne.mpr c15;simp only [Option.some.injEq,Prod.mk.injEq]at H;obtain⟨rfl,rfl,rfl⟩:=H;obtain⟨ASz16_0,cSz16_0,HGz16,hgz16,HSz16_0⟩:=HI0.out;have Z16_0:=cellS88_0 HGz16;have Z16_1:=cellS88_1 HGz16;have Z16_2:=cellS88_2 HGz16;have F16_1:=blk_frozen HGz16 1;have F16_2:=blk_frozen HGz16 2;clear HGz16 hgz16
     go_enter Try.func64,Try.ntmps64
     go_wp2
     repeat (go_quiet (fail);try go_wp2)
     go_ret;exact⟨er_,hi88_ HI0,hbs_ HB (IsS88.ge HI0.out),hk_ HK⟩

/-! ### spec_Stride: function 24 -/
def spec_Stride.f (a0:Int):Option (Int):=if a0 < 1 then(some 0) else(if a0 > 10 then(some 0) else(if a0=0 then(none) else(some (wrap64 ((2520:Int) / a0)))))
set_option maxHeartbeats 8000000 in
set_option maxRecDepth 100000 in
theorem spec_Stride.calls (a0:Int) (r:Int) (w:World) (h:spec_Stride.f a0=some r) :
  Calls Try.prog 24 #[.int .i64 a0] w fun e w'=>e=.returned (.int .i64 r)∧Drawn0 w w':=by
 have H:=h;clear h;unfold spec_Stride.f at H
 by_cases c2:a0 < 1
 ·rw [if_pos c2]at H;have c2b0:decide (a0 < 1)=true:=decide_eq_true c2;clear c2;obtain rfl:=Option.some.inj H
  go_enter Try.func24,Try.ntmps24
  go_wp2;go_ret;exact⟨by first|rfl|(simp;rw [Int.tdiv_eq_ediv_of_nonneg]<;>first|decide|omega)|(simp;done)|(simp [*];done),by repeat (first|exact Drawn0.refl _|apply Drawn0.step)⟩
 ·rw [if_neg c2]at H;have c2b0:decide (a0 < 1)=false:=decide_eq_false c2;clear c2
  by_cases c3:a0 > 10
  ·rw [if_pos c3]at H;have c3b0:decide (10 < a0)=true:=decide_eq_true c3;clear c3;obtain rfl:=Option.some.inj H
   go_enter Try.func24,Try.ntmps24
   go_wp2;go_ret;exact⟨by first|rfl|(simp;rw [Int.tdiv_eq_ediv_of_nonneg]<;>first|decide|omega)|(simp;done)|(simp [*];done),by repeat (first|exact Drawn0.refl _|apply Drawn0.step)⟩
  ·rw [if_neg c3]at H;have c3b0:decide (10 < a0)=false:=decide_eq_false c3;clear c3
   by_cases c4:a0=0
   ·rw [if_pos c4]at H;exact absurd H (by simp)
   ·rw [if_neg c4]at H;have c4b0:(a0 == 0)=false:=beq_eq_false_iff_ne.mpr c4;have c4b1:(a0 != 0)=true:=bne_iff_ne.mpr c4;obtain rfl:=Option.some.inj H
    go_enter Try.func24,Try.ntmps24
    go_wp2;go_ret;exact⟨by first|rfl|(simp;rw [Int.tdiv_eq_ediv_of_nonneg]<;>first|decide|omega)|(simp;done)|(simp [*];done),by repeat (first|exact Drawn0.refl _|apply Drawn0.step)⟩

/-! ### spec_l13All: function 89 -/
def spec_l13All.f (a0_0:Int) (a0_1:Int) (a0_2:Int) (a1:Int) (a2:Int):Option (Bool):=if a0_0 ≥ a1 then(if a0_0≤a2 then(if a0_1 ≥ a1 then(if a0_1≤a2 then(if a0_2 ≥ a1 then(some (decide (a0_2≤a2))) else(some false)) else(some false)) else(some false)) else(some false)) else(some false)
set_option maxHeartbeats 8000000 in
set_option maxRecDepth 100000 in
theorem spec_l13All.calls (a0_0:Int) (a0_1:Int) (a0_2:Int) (a1:Int) (a2:Int) (r:Bool) (w:World) (h:spec_l13All.f a0_0 a0_1 a0_2 a1 a2=some r) :
  Calls Try.prog 89 #[.agg #[.int .i64 a0_0,.int .i64 a0_1,.int .i64 a0_2],.int .i64 a1,.int .i64 a2] w fun e w'=>e=.returned (.bool r)∧Below w.heap.size w w':=by
 have hu28:=Try.underlying28;have HB:=am_ (Below.refl w.heap.size w);have H:=h;clear h;unfold spec_l13All.f at H
 by_cases c4:a0_0 ≥ a1
 ·rw [if_pos c4]at H;have c4b0:decide (a1≤a0_0)=true:=decide_eq_true c4;clear c4
  by_cases c5:a0_0≤a2
  ·rw [if_pos c5]at H;have c5b0:decide (a0_0≤a2)=true:=decide_eq_true c5;clear c5
   by_cases c6:a0_1 ≥ a1
   ·rw [if_pos c6]at H;have c6b0:decide (a1≤a0_1)=true:=decide_eq_true c6;clear c6
    by_cases c7:a0_1≤a2
    ·rw [if_pos c7]at H;have c7b0:decide (a0_1≤a2)=true:=decide_eq_true c7;clear c7
     by_cases c8:a0_2 ≥ a1
     ·rw [if_pos c8]at H;have c8b0:decide (a1≤a0_2)=true:=decide_eq_true c8;clear c8;obtain rfl:=Option.some.inj H
      go_enter Try.func89,Try.ntmps89
      go_wp2_with (first|((with_reducible refine gd_ 3 rfl ?_);refine bv_ 3 #[.int .i64 a0_0,.int .i64 a0_1,.int .i64 a0_2] 28 ?_;intro gb105 hg w9 hbox hb;have B105:=am_ (hbox);have GW105:=gw_ HB hg;have GE105:=gw_ HB hg;replace HB:=am_ (below_step (be_ HB) hb);clear hb hbox hg;obtain⟨Z10_0,Z10_1,Z10_2,F10_0,F10_1,F10_2⟩:=bz3_ B105));go_ret;exact⟨er_,bf_ HB⟩
     ·rw [if_neg c8]at H;have c8b0:decide (a1≤a0_2)=false:=decide_eq_false c8;clear c8;obtain rfl:=Option.some.inj H
      go_enter Try.func89,Try.ntmps89
      go_wp2_with (first|((with_reducible refine gd_ 3 rfl ?_);refine bv_ 3 #[.int .i64 a0_0,.int .i64 a0_1,.int .i64 a0_2] 28 ?_;intro gb105 hg w11 hbox hb;have B105:=am_ (hbox);have GW105:=gw_ HB hg;have GE105:=gw_ HB hg;replace HB:=am_ (below_step (be_ HB) hb);clear hb hbox hg;obtain⟨Z12_0,Z12_1,Z12_2,F12_0,F12_1,F12_2⟩:=bz3_ B105));go_ret;exact⟨er_,bf_ HB⟩
    ·rw [if_neg c7]at H;have c7b0:decide (a0_1≤a2)=false:=decide_eq_false c7;clear c7;obtain rfl:=Option.some.inj H
     go_enter Try.func89,Try.ntmps89
     go_wp2_with (first|((with_reducible refine gd_ 3 rfl ?_);refine bv_ 3 #[.int .i64 a0_0,.int .i64 a0_1,.int .i64 a0_2] 28 ?_;intro gb105 hg w13 hbox hb;have B105:=am_ (hbox);have GW105:=gw_ HB hg;have GE105:=gw_ HB hg;replace HB:=am_ (below_step (be_ HB) hb);clear hb hbox hg;obtain⟨Z14_0,Z14_1,Z14_2,F14_0,F14_1,F14_2⟩:=bz3_ B105));go_ret;exact⟨er_,bf_ HB⟩
   ·rw [if_neg c6]at H;have c6b0:decide (a1≤a0_1)=false:=decide_eq_false c6;clear c6;obtain rfl:=Option.some.inj H
    go_enter Try.func89,Try.ntmps89
    go_wp2_with (first|((with_reducible refine gd_ 3 rfl ?_);refine bv_ 3 #[.int .i64 a0_0,.int .i64 a0_1,.int .i64 a0_2] 28 ?_;intro gb105 hg w15 hbox hb;have B105:=am_ (hbox);have GW105:=gw_ HB hg;have GE105:=gw_ HB hg;replace HB:=am_ (below_step (be_ HB) hb);clear hb hbox hg;obtain⟨Z16_0,Z16_1,Z16_2,F16_0,F16_1,F16_2⟩:=bz3_ B105));go_ret;exact⟨er_,bf_ HB⟩
  ·rw [if_neg c5]at H;have c5b0:decide (a0_0≤a2)=false:=decide_eq_false c5;clear c5;obtain rfl:=Option.some.inj H
   go_enter Try.func89,Try.ntmps89
   go_wp2_with (first|((with_reducible refine gd_ 3 rfl ?_);refine bv_ 3 #[.int .i64 a0_0,.int .i64 a0_1,.int .i64 a0_2] 28 ?_;intro gb105 hg w17 hbox hb;have B105:=am_ (hbox);have GW105:=gw_ HB hg;have GE105:=gw_ HB hg;replace HB:=am_ (below_step (be_ HB) hb);clear hb hbox hg;obtain⟨Z18_0,Z18_1,Z18_2,F18_0,F18_1,F18_2⟩:=bz3_ B105));go_ret;exact⟨er_,bf_ HB⟩
 ·rw [if_neg c4]at H;have c4b0:decide (a1≤a0_0)=false:=decide_eq_false c4;clear c4;obtain rfl:=Option.some.inj H
  go_enter Try.func89,Try.ntmps89
  go_wp2_with (first|((with_reducible refine gd_ 3 rfl ?_);refine bv_ 3 #[.int .i64 a0_0,.int .i64 a0_1,.int .i64 a0_2] 28 ?_;intro gb105 hg w19 hbox hb;have B105:=am_ (hbox);have GW105:=gw_ HB hg;have GE105:=gw_ HB hg;replace HB:=am_ (below_step (be_ HB) hb);clear hb hbox hg;obtain⟨Z20_0,Z20_1,Z20_2,F20_0,F20_1,F20_2⟩:=bz3_ B105));go_ret;exact⟨er_,bf_ HB⟩

/-! ### spec_TagOk: function 78 -/
def spec_TagOk.f (a0_0:Int) (a0_1:Int) (a0_2:Int):Option (Bool):=(spec_l13All.f a0_0 a0_1 a0_2 0 1000000000000).bind fun t107=>(some t107)
set_option maxHeartbeats 8000000 in
set_option maxRecDepth 100000 in
theorem spec_TagOk.calls (a0_0:Int) (a0_1:Int) (a0_2:Int) (r:Bool) (w:World) (h:spec_TagOk.f a0_0 a0_1 a0_2=some r) :
  Calls Try.prog 78 #[.agg #[.int .i64 a0_0,.int .i64 a0_1,.int .i64 a0_2]] w fun e w'=>e=.returned (.bool r)∧Below w.heap.size w w':=by
 have hu28:=Try.underlying28;have HB:=am_ (Below.refl w.heap.size w);have H:=h;clear h;unfold spec_TagOk.f at H;replace H:=bm1_ H;obtain⟨t107,A2,H⟩:=H;obtain rfl:=Option.some.inj H
 go_enter Try.func78,Try.ntmps78
 go_wp2_with (first|((with_reducible refine gd_ 1 rfl ?_);refine bv_ 1 #[.int .i64 a0_0,.int .i64 a0_1,.int .i64 a0_2] 28 ?_;intro gb106 hg w3 hbox hb;have B106:=am_ (hbox);have GW106:=gw_ HB hg;have GE106:=gw_ HB hg;replace HB:=am_ (below_step (be_ HB) hb);clear hb hbox hg;obtain⟨Z4_0,Z4_1,Z4_2,F4_0,F4_1,F4_2⟩:=bz3_ B106)|((with_reducible refine gc_ 89 rfl ?_);refine gk_ 4 Try.func89 (spec_l13All.calls a0_0 a0_1 a0_2 0 1000000000000 t107 _ A2.out) ?_;rintro e w5 ⟨rfl,hb⟩;refine⟨_,rfl,?_⟩;replace B106:=bb_ B106 hb;replace HB:=sb_ HB hb;clear hb));go_ret;exact⟨er_,bf_ HB⟩

/-! ### spec_l13Delta: function 79 -/
def spec_l13Delta.f (a0:Int):Option (Bool):=if a0 ≥ 0 then(some (decide (a0≤10000000))) else(some false)
set_option maxHeartbeats 8000000 in
set_option maxRecDepth 100000 in
theorem spec_l13Delta.calls (a0:Int) (r:Bool) (w:World) (h:spec_l13Delta.f a0=some r) :
  Calls Try.prog 79 #[.int .i64 a0] w fun e w'=>e=.returned (.bool r)∧Drawn0 w w':=by
 have H:=h;clear h;unfold spec_l13Delta.f at H
 by_cases c2:a0 ≥ 0
 ·rw [if_pos c2]at H;have c2b0:decide (0≤a0)=true:=decide_eq_true c2;clear c2;obtain rfl:=Option.some.inj H
  go_enter Try.func79,Try.ntmps79
  go_wp2;go_ret;exact⟨by first|rfl|(simp;done)|(simp [*];done),by repeat (first|exact Drawn0.refl _|apply Drawn0.step)⟩
 ·rw [if_neg c2]at H;have c2b0:decide (0≤a0)=false:=decide_eq_false c2;clear c2;obtain rfl:=Option.some.inj H
  go_enter Try.func79,Try.ntmps79
  go_wp2;go_ret;exact⟨by first|rfl|(simp;done)|(simp [*];done),by repeat (first|exact Drawn0.refl _|apply Drawn0.step)⟩

/-! ### spec_Narrow: function 49 -/
def spec_Narrow.f (a0_0:Int) (a0_1:Int) (a0_2:Int) (a1:Int):Option (Bool):=(spec_TagOk.f a0_0 a0_1 a0_2).bind fun t109=>(if t109=true then((spec_l13Delta.f a1).bind fun t110=>(if t110=true then((spec_VecTop.f a0_0 a0_1 a0_2).bind fun t111=>(some (decide ((mn (mn a0_0 a0_1) a0_2) ≥ (wrap64 (t111 - a1)))))) else(some false))) else(some false))
def spec_Narrow.T1:Bool × List (List Nat × List Nat):=(true,[([],[]),([0],[0]),([1,1],[1]),([2],[2]),([3,2,2],[2,3]),([2,4],[2,4]),([5,4],[5]),([6],[6]),([7,6],[6,7]),([6],[6]),([9,6],[6,9]),([6],[6]),([11,6],[6,11]),([8,10,12,6],[6,8,10,12]),([6],[6]),([14,6,6],[6,14]),([6],[6]),([15,16,6],[6,15,16]),([13,17,6],[6,13,17]),([6,18],[6,18]),([19,15,0,1,2,3,4,5,6,7,8,9,10,11,12,13,14,15,16,17,18,19],[19])])
def spec_Narrow.B1:List Nat:=[0,1,3,7,15,31,63,127,255,127,639,127,2175,8191,127,16511,127,114815,262143,524287,1048575]
theorem spec_Narrow.tab1:rtab .any (opsOf Try.f49 1)=spec_Narrow.T1:=by kernel_rfl
theorem spec_Narrow.bits1:waitsOk spec_Narrow.T1.2 spec_Narrow.B1=true:=by kernel_rfl
set_option maxHeartbeats 8000000 in
set_option maxRecDepth 100000 in
theorem spec_Narrow.calls (a0_0:Int) (a0_1:Int) (a0_2:Int) (a1:Int) (r:Bool) (w:World) (h:spec_Narrow.f a0_0 a0_1 a0_2 a1=some r) :
  Calls Try.prog 49 #[.agg #[.int .i64 a0_0,.int .i64 a0_1,.int .i64 a0_2],.int .i64 a1] w fun e w'=>e=.returned (.bool r)∧Below w.heap.size w w':=by
 have hu28:=Try.underlying28;have HB:=am_ (Below.refl w.heap.size w);have H:=h;clear h;unfold spec_Narrow.f at H;replace H:=bm1_ H;obtain⟨t109,A3,H⟩:=H
 by_cases c4:t109=true
 ·subst c4;rw [if_pos rfl]at H;replace H:=bm1_ H;obtain⟨t110,A5,H⟩:=H
  by_cases c6:t110=true
  ·subst c6;rw [if_pos rfl]at H;obtain⟨ji7,hji7⟩:∃ j_:Int,(mn a0_0 a0_1)=j_:=⟨_,rfl⟩;replace H:((spec_VecTop.f a0_0 a0_1 a0_2).bind fun t111=>(some (decide ((mn (ji7) a0_2) ≥ (wrap64 (t111 - a1))))))=some r:=(by first|(rw [hji7]at H;exact H)|(simp only [hji7]at H ⊢;exact H));(try rw [hji7]at A3);(try rw [hji7]at A5);have hji7_:(if a0_1 < a0_0 then a0_1 else a0_0)=ji7:=hji7;obtain⟨ji8,hji8⟩:∃ j_:Int,(mn (ji7) a0_2)=j_:=⟨_,rfl⟩;replace H:((spec_VecTop.f a0_0 a0_1 a0_2).bind fun t111=>(some (decide ((ji8) ≥ (wrap64 (t111 - a1))))))=some r:=(by first|(rw [hji8]at H;exact H)|(simp only [hji8]at H ⊢;exact H));(try rw [hji8]at A3);(try rw [hji8]at A5);have hji8_:(if a0_2 < (ji7) then a0_2 else(ji7))=ji8:=hji8;replace H:=bm1_ H;obtain⟨t111,A9,H⟩:=H;obtain rfl:=Option.some.inj H
   go_enter Try.func49,Try.ntmps49
   try go_wp2_with (first|((with_reducible refine gd_ 2 rfl ?_);(try (refine gate_guard (by rfl) ?_;dsimp only));refine bv_ 2 #[.int .i64 a0_0,.int .i64 a0_1,.int .i64 a0_2] 28 ?_;intro gb108 hg w10 hbox hb;have B108:=am_ (hbox);have GW108:=gw_ HB hg;have GE108:=gw_ HB hg;replace HB:=am_ (below_step (be_ HB) hb);clear hb hbox hg))
   replace B108:=bd_ B108;replace HB:=be1_ HB;refine start_ (n:=21) (S:=fun w'=>cc3_ w' gb108 (.int .i64 a0_0) (.int .i64 a0_1) (.int .i64 a0_2)) (ds:=[]) (bs 21 0) (by kernel_rfl) rfl rfl (bo3_ B108) (fun hH=>?_);refine with_tabW spec_Narrow.tab1 spec_Narrow.bits1 (fun HT_ HW_=>?_);generalize w10.drew=w11 at B108 HB hH ⊢;refine tkn_ HT_ HW_ hH ?_;refine on_ 1 (some 6) (bs 21 2) HT_ (fun K hK=>?_);refine gz_ Try.func78 (spec_TagOk.calls a0_0 a0_1 a0_2 true _ A3.out) ?_;rintro e w12 ⟨rfl,hb⟩;refine⟨_,rfl,?_⟩;replace B108:=bb_ B108 hb;replace HB:=sb_ HB hb;(try clear hb);refine hK.out _ _ (bo3_ B108) (fun hH=>?_);clear hK K;refine norm_ (a':=?_) ?_ ?_;rotate_left
   ·show Act.put _ (some 6) _=_;simp only [Act.put,ls0_,ls1_,ls2_,i64_w,i32_w];rfl
   (iterate 2 (refine psn_ HT_ ?_));refine on_ 4 (some 9) (bs 21 5) HT_ (fun K hK=>?_);refine gz_ Try.func79 (spec_l13Delta.calls a1 true _ A5.out) ?_;rintro e w' ⟨rfl,⟨nd,rfl⟩⟩;refine⟨_,rfl,?_⟩;refine hK.out _ _ (bo3_ B108) (fun hH=>?_);clear hK K;refine norm_ (a':=?_) ?_ ?_;rotate_left
   ·show Act.put _ (some 9) _=_;simp only [Act.put,ls0_,ls1_,ls2_,i64_w,i32_w];rfl
   (iterate 3 (refine psn_ HT_ ?_));refine ps_ 9 14 (bm 21 767) HT_ ?_;refine ps_ 11 16 (bm 21 2815) HT_ ?_;refine ps_ 16 21 (bm 21 68351) HT_ ?_;refine tk_ 8 13 (bm 21 68607) HT_ HW_ hH ?_;refine tk_ 10 15 (bm 21 69631) HT_ HW_ hH ?_;refine tk_ 12 17 (bm 21 73727) HT_ HW_ hH ?_;refine ps_ 13 18 (bm 21 81919) HT_ ?_;refine tk_ 14 19 (bm 21 98303) HT_ HW_ hH ?_;refine on_ 15 (some 20) (bs 21 17) HT_ (fun K hK=>?_);refine gz_ Try.func23 (spec_VecTop.calls a0_0 a0_1 a0_2 t111 _ A9.out) ?_;rintro e w13 ⟨rfl,hb⟩;refine⟨_,rfl,?_⟩;replace B108:=bb_ B108 hb;replace HB:=sb_ HB hb;(try clear hb);refine hK.out _ _ (bo3_ B108) (fun hH=>?_);clear hK K;refine norm_ (a':=?_) ?_ ?_;rotate_left
   ·show Act.put _ (some 20) _=_;simp only [Act.put,ls0_,ls1_,ls2_,i64_w,i32_w];rfl
   (iterate 4 (refine psn_ HT_ ?_));refine done_ (done_of HT_.out (by kernel_rfl)) ?_
   try go_wp2
   go_ret;exact⟨by first|rfl|(simp [errW_none,errW_some]<;>rfl)|(simp only [← hji7,← hji8];first|rfl|(simp [errW_none,errW_some]<;>rfl))|(simp [*,errW_none,errW_some]<;>rfl),bf_ HB⟩
  ·replace c6:=Bool.eq_false_iff.mpr c6;subst c6;rw [if_neg (show ¬ (false=true) by decide)]at H;obtain rfl:=Option.some.inj H
   go_enter Try.func49,Try.ntmps49
   try go_wp2_with (first|((with_reducible refine gd_ 2 rfl ?_);(try (refine gate_guard (by rfl) ?_;dsimp only));refine bv_ 2 #[.int .i64 a0_0,.int .i64 a0_1,.int .i64 a0_2] 28 ?_;intro gb108 hg w14 hbox hb;have B108:=am_ (hbox);have GW108:=gw_ HB hg;have GE108:=gw_ HB hg;replace HB:=am_ (below_step (be_ HB) hb);clear hb hbox hg))
   replace B108:=bd_ B108;replace HB:=be1_ HB;refine start_ (n:=21) (S:=fun w'=>cc3_ w' gb108 (.int .i64 a0_0) (.int .i64 a0_1) (.int .i64 a0_2)) (ds:=[]) (bs 21 0) (by kernel_rfl) rfl rfl (bo3_ B108) (fun hH=>?_);refine with_tabW spec_Narrow.tab1 spec_Narrow.bits1 (fun HT_ HW_=>?_);generalize w14.drew=w15 at B108 HB hH ⊢;refine tkn_ HT_ HW_ hH ?_;refine on_ 1 (some 6) (bs 21 2) HT_ (fun K hK=>?_);refine gz_ Try.func78 (spec_TagOk.calls a0_0 a0_1 a0_2 true _ A3.out) ?_;rintro e w16 ⟨rfl,hb⟩;refine⟨_,rfl,?_⟩;replace B108:=bb_ B108 hb;replace HB:=sb_ HB hb;(try clear hb);refine hK.out _ _ (bo3_ B108) (fun hH=>?_);clear hK K;refine norm_ (a':=?_) ?_ ?_;rotate_left
   ·show Act.put _ (some 6) _=_;simp only [Act.put,ls0_,ls1_,ls2_,i64_w,i32_w];rfl
   (iterate 2 (refine psn_ HT_ ?_));refine on_ 4 (some 9) (bs 21 5) HT_ (fun K hK=>?_);refine gz_ Try.func79 (spec_l13Delta.calls a1 false _ A5.out) ?_;rintro e w' ⟨rfl,⟨nd,rfl⟩⟩;refine⟨_,rfl,?_⟩;refine hK.out _ _ (bo3_ B108) (fun hH=>?_);clear hK K;refine norm_ (a':=?_) ?_ ?_;rotate_left
   ·show Act.put _ (some 9) _=_;simp only [Act.put,ls0_,ls1_,ls2_,i64_w,i32_w];rfl
   (iterate 2 (refine psn_ HT_ ?_));(iterate 12 (refine pun_ HT_ ?_));(iterate 2 (refine psn_ HT_ ?_));refine done_ (done_of HT_.out (by kernel_rfl)) ?_
   try go_wp2
   go_ret;exact⟨er_,bf_ HB⟩
 ·replace c4:=Bool.eq_false_iff.mpr c4;subst c4;rw [if_neg (show ¬ (false=true) by decide)]at H;obtain rfl:=Option.some.inj H
  go_enter Try.func49,Try.ntmps49
  try go_wp2_with (first|((with_reducible refine gd_ 2 rfl ?_);(try (refine gate_guard (by rfl) ?_;dsimp only));refine bv_ 2 #[.int .i64 a0_0,.int .i64 a0_1,.int .i64 a0_2] 28 ?_;intro gb108 hg w17 hbox hb;have B108:=am_ (hbox);have GW108:=gw_ HB hg;have GE108:=gw_ HB hg;replace HB:=am_ (below_step (be_ HB) hb);clear hb hbox hg))
  replace B108:=bd_ B108;replace HB:=be1_ HB;refine start_ (n:=21) (S:=fun w'=>cc3_ w' gb108 (.int .i64 a0_0) (.int .i64 a0_1) (.int .i64 a0_2)) (ds:=[]) (bs 21 0) (by kernel_rfl) rfl rfl (bo3_ B108) (fun hH=>?_);refine with_tabW spec_Narrow.tab1 spec_Narrow.bits1 (fun HT_ HW_=>?_);generalize w17.drew=w18 at B108 HB hH ⊢;refine tkn_ HT_ HW_ hH ?_;refine on_ 1 (some 6) (bs 21 2) HT_ (fun K hK=>?_);refine gz_ Try.func78 (spec_TagOk.calls a0_0 a0_1 a0_2 false _ A3.out) ?_;rintro e w19 ⟨rfl,hb⟩;refine⟨_,rfl,?_⟩;replace B108:=bb_ B108 hb;replace HB:=sb_ HB hb;(try clear hb);refine hK.out _ _ (bo3_ B108) (fun hH=>?_);clear hK K;refine norm_ (a':=?_) ?_ ?_;rotate_left
  ·show Act.put _ (some 6) _=_;simp only [Act.put,ls0_,ls1_,ls2_,i64_w,i32_w];rfl
  refine psn_ HT_ ?_;(iterate 2 (refine pun_ HT_ ?_));(iterate 2 (refine psn_ HT_ ?_));(iterate 12 (refine pun_ HT_ ?_));(iterate 2 (refine psn_ HT_ ?_));refine done_ (done_of HT_.out (by kernel_rfl)) ?_
  try go_wp2
  go_ret;exact⟨er_,bf_ HB⟩

end Go.Proofs.Ytppmbdfbhahngaa.PFnWaits
