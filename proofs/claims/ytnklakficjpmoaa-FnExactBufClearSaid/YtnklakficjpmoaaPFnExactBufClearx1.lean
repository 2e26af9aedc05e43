-- printed by a program of this session (wip/printx) out of the translation; Lean checks it
import Derived.Test.YtnklakficjpmoaaVFnExactBufClear
import Derived.Test.YtnklakficjpmoaaPFnExactBufClearx0
namespace Go.Proofs.Ytnklakficjpmoaa.PFnExactBufClear
open Go.RowKit Go.Proofs.YtnklakficjpmoaaW.PrintWords Go.Proofs.YtnklakficjpmoaaW.PrintLast Go.Proofs.YtnklakficjpmoaaW.PrintMore
attribute [local go_sem] max2_int min2_int max_two min_two max_three min_three max_four min_four   -- for this text's walks alone
set_option linter.unusedVariables false
set_option linter.unusedSimpArgs false

/-! ### laws_szHeldS: function 148 -/
def laws_szHeldS.f (l0:List (S42)) (a1:Int):Option (Int):=if (wrap64 (a1 - (l0.length:Int))) < 0 then(some (-1)) else(some (wrap64 (a1 - (l0.length:Int))))
set_option maxHeartbeats 80000000 in
set_option maxRecDepth 100000 in
theorem laws_szHeldS.calls (A0:Option Addr) (c0:Nat) (l0:List (S42)) (a1:Int) (r:Int) (w:World) (hr0:Kd.C k42 w A0 l0.length l0) (hc0:l0.length≤c0) (h:laws_szHeldS.f l0 a1=some r) :
  Calls Try.prog 148 #[.slice A0 l0.length c0,.int .i64 a1] w fun e w'=>e=.returned (.int .i64 r)∧Drawn0 w w':=by
 have HR0:=am_ hr0;have HC0:=am_ hc0;clear hr0 hc0;have H:=h;clear h;unfold laws_szHeldS.f at H
 by_cases c3:(wrap64 (a1 - (l0.length:Int))) < 0
 ·rw [if_pos c3]at H;have c3b0:decide ((wrap64 (a1 - (l0.length:Int))) < 0)=true:=decide_eq_true c3;clear c3;obtain rfl:=Option.some.inj H
  go_enter Try.func148,Try.ntmps148
  go_wp2;go_ret;exact⟨by first|rfl|(simp;done)|(simp [*];done),by repeat (first|exact Drawn0.refl _|apply Drawn0.step)⟩
 ·rw [if_neg c3]at H;have c3b0:decide ((wrap64 (a1 - (l0.length:Int))) < 0)=false:=decide_eq_false c3;clear c3;obtain rfl:=Option.some.inj H
  go_enter Try.func148,Try.ntmps148
  go_wp2;go_ret;exact⟨by first|rfl|(simp;done)|(simp [*];done),by repeat (first|exact Drawn0.refl _|apply Drawn0.step)⟩

/-! ### laws_szLane: function 116 -/
def laws_szLane.f (a0_0:Int) (l0_1:List (S42)) (a1:Int):Option (Int):=(laws_szHeldS.f l0_1 a1).bind fun t102=>(if t102 < 0 then(some (-1)) else(some t102))
set_option maxHeartbeats 80000000 in
set_option maxRecDepth 100000 in
theorem laws_szLane.calls (a0_0:Int) (A0_1:Option Addr) (c0_1:Nat) (l0_1:List (S42)) (a1:Int) (r:Int) (w:World) (hr0_1:Kd.C k42 w A0_1 l0_1.length l0_1) (hc0_1:l0_1.length≤c0_1) (h:laws_szLane.f a0_0 l0_1 a1=some r) :
  Calls Try.prog 116 #[.agg #[.int .i64 a0_0,.slice A0_1 l0_1.length c0_1],.int .i64 a1] w fun e w'=>e=.returned (.int .i64 r)∧Below w.heap.size w w':=by
 have hu133:=Try.underlying133;have HR0_1:=am_ hr0_1;have HC0_1:=am_ hc0_1;clear hr0_1 hc0_1;have HB:=am_ (Below.refl w.heap.size w);have H:=h;clear h;unfold laws_szLane.f at H;replace H:=bm1_ H;obtain⟨t102,A3,H⟩:=H
 by_cases c4:t102 < 0
 ·rw [if_pos c4]at H;have c4b0:decide (t102 < 0)=true:=decide_eq_true c4;clear c4;obtain rfl:=Option.some.inj H
  go_enter Try.func116,Try.ntmps116
  go_wp2_with (first|((with_reducible refine gd_ 2 rfl ?_);refine bv_ 2 #[.int .i64 a0_0,.slice A0_1 l0_1.length c0_1] 133 ?_;intro gb101 hg w5 hbox hb;have B101:=am_ (hbox);have GW101:=gw_ HB hg;have GE101:=gw_ HB hg;replace HB:=am_ (below_step (be_ HB) hb);clear hb hbox hg;obtain⟨Z6_0,Z6_1,F6_0,F6_1⟩:=bz2_ B101)|((with_reducible refine gc_ 148 rfl ?_);refine gk_ 8 Try.func148 (laws_szHeldS.calls _ _ l0_1 a1 t102 _ ?side1 ?side2 A3.out) ?_;(case side1=>repeat (first|exact(Kd.C_below HR0_1.out HB.out)|(with_reducible refine Kd.C_alloc ?_ _)|(with_reducible refine Kd.C_drewN ?_ _)|(with_reducible refine Kd.C_drew ?_)));(case side2=>exact HC0_1.out);rintro e w' ⟨rfl,⟨nd,rfl⟩⟩;refine⟨_,rfl,?_⟩));go_ret;exact⟨er_,bf_ HB⟩
 ·rw [if_neg c4]at H;have c4b0:decide (t102 < 0)=false:=decide_eq_false c4;clear c4;obtain rfl:=Option.some.inj H
  go_enter Try.func116,Try.ntmps116
  go_wp2_with (first|((with_reducible refine gd_ 2 rfl ?_);refine bv_ 2 #[.int .i64 a0_0,.slice A0_1 l0_1.length c0_1] 133 ?_;intro gb101 hg w7 hbox hb;have B101:=am_ (hbox);have GW101:=gw_ HB hg;have GE101:=gw_ HB hg;replace HB:=am_ (below_step (be_ HB) hb);clear hb hbox hg;obtain⟨Z8_0,Z8_1,F8_0,F8_1⟩:=bz2_ B101)|((with_reducible refine gc_ 148 rfl ?_);refine gk_ 8 Try.func148 (laws_szHeldS.calls _ _ l0_1 a1 t102 _ ?side1 ?side2 A3.out) ?_;(case side1=>repeat (first|exact(Kd.C_below HR0_1.out HB.out)|(with_reducible refine Kd.C_alloc ?_ _)|(with_reducible refine Kd.C_drewN ?_ _)|(with_reducible refine Kd.C_drew ?_)));(case side2=>exact HC0_1.out);rintro e w' ⟨rfl,⟨nd,rfl⟩⟩;refine⟨_,rfl,?_⟩));go_ret;exact⟨er_,bf_ HB⟩

/-! ### laws_szLaneS: function 70 -/
def laws_szLaneS.l0:Nat→List (S133)→Int→Int→Option (Int)
  | 0,_,_,_=>none
  | k+1,x0,x1,x5=>if x5 < (x0.length:Int) then(if 0≤x5 then((laws_szLane.f ((rd_T133 x0 x5).f0) ((rd_T133 x0 x5).f1) x1).bind fun t104=>(if t104 < 0 then(some (-1)) else(laws_szLaneS.l0 k x0 t104 (wrap64 (x5+1))))) else(none)) else(some x1)
def laws_szLaneS.f (k:Nat) (l0:List (S133)) (a1:Int):Option (Int):=if (wrap64 (a1 - (l0.length:Int))) < 0 then(some (-1)) else(laws_szLaneS.l0 k l0 (wrap64 (a1 - (l0.length:Int))) 0)
theorem laws_szLaneS.mono_l:∀ k,(∀ y0 y1 y2,LeO (laws_szLaneS.l0 k y0 y1 y2) (laws_szLaneS.l0 (k+1) y0 y1 y2))
 | 0=>fun _ _ _ r h=>by simp [laws_szLaneS.l0]at h
 | k+1=>by
  have ih0:=laws_szLaneS.mono_l k
  ·intro y0 y1 y2;unfold laws_szLaneS.l0
   repeat' (first|(with_reducible exact ih0 ..)|(with_reducible exact LeO.refl _)|(with_reducible exact LeO.none _)|(with_reducible refine LeO.ite ?_ ?_)|(with_reducible refine LeO.bind ?_ (fun _=>?_))|exact ih0 ..|exact LeO.none _|refine LeO.ite ?_ ?_|refine LeO.bind ?_ (fun _=>?_))
theorem laws_szLaneS.mono:∀ a0 a1 k,LeO (laws_szLaneS.f k a0 a1) (laws_szLaneS.f (k+1) a0 a1):=by
 intro a0 a1 k;have ih0:=laws_szLaneS.mono_l k;unfold laws_szLaneS.f
 repeat' (first|(with_reducible exact ih0 ..)|(with_reducible exact LeO.refl _)|(with_reducible exact LeO.none _)|(with_reducible refine LeO.ite ?_ ?_)|(with_reducible refine LeO.bind ?_ (fun _=>?_))|exact ih0 ..|exact LeO.none _|refine LeO.ite ?_ ?_|refine LeO.bind ?_ (fun _=>?_))
set_option maxHeartbeats 80000000 in
set_option maxRecDepth 100000 in
theorem laws_szLaneS.calls (k:Nat) (A0:Option Addr) (c0:Nat) (l0:List (S133)) (a1:Int) (r:Int) (w:World) (hr0:Kd.C k133 w A0 l0.length l0) (hc0:l0.length≤c0) (h:laws_szLaneS.f k l0 a1=some r) :
  Calls Try.prog 70 #[.slice A0 l0.length c0,.int .i64 a1] w fun e w'=>e=.returned (.int .i64 r)∧Below w.heap.size w w':=by
 have hu133:=Try.underlying133;have HR0:=am_ hr0;have HC0:=am_ hc0;clear hr0 hc0;have HB:=am_ (Below.refl w.heap.size w);have H:=h;clear h;unfold laws_szLaneS.f at H
 by_cases c3:(wrap64 (a1 - (l0.length:Int))) < 0
 ·rw [if_pos c3]at H;have c3b0:decide ((wrap64 (a1 - (l0.length:Int))) < 0)=true:=decide_eq_true c3;clear c3;obtain rfl:=Option.some.inj H
  go_enter Try.func70,Try.ntmps70
  go_wp2;go_ret;exact⟨er_,be_ HB⟩
 ·rw [if_neg c3]at H;have c3b0:decide ((wrap64 (a1 - (l0.length:Int))) < 0)=false:=decide_eq_false c3;clear c3;have H':=am_ H;clear H
  go_enter Try.func70,Try.ntmps70
  go_wp2
  go_loopg [1,5] k (fun kq v1 v5 w'=>∃ (x1_1:Int) (x5_1:Int),v1=.int .i64 x1_1∧v5=.int .i64 x5_1∧Aside0 (laws_szLaneS.l0 kq l0 x1_1 x5_1=some r)∧Aside0 (kq≤k)∧Aside0 (Below w.heap.size w w'))
  case atStart=>exact⟨(wrap64 (a1 - (l0.length:Int))),(0),re_,re_,H',⟨Nat.le_refl _⟩,⟨be_ HB⟩⟩
  case round =>
   clear H';(try clear c3);(try clear c3b0);obtain⟨x1_1,x5_1,rfl,rfl,HA,HK1,HB⟩:=hrel
   cases gk with
   | zero=>exact absurd HA.out (by simp [laws_szLaneS.l0])
   | succ k1 =>
    have H:=HA.out;clear HA;simp only [laws_szLaneS.l0]at H
    by_cases c4:x5_1 < (l0.length:Int)
    ·rw [if_pos c4]at H;have c4b0:decide (x5_1 < (l0.length:Int))=true:=decide_eq_true c4;clear c4
     by_cases c5:0≤x5_1
     ·rw [if_pos c5]at H;have c5b0:decide (0≤x5_1)=true:=decide_eq_true c5;clear c5;replace H:=bm1_ H;obtain⟨t104,A6,H⟩:=H
      by_cases c7:t104 < 0
      ·rw [if_pos c7]at H;have c7b0:decide (t104 < 0)=true:=decide_eq_true c7;clear c7;obtain rfl:=Option.some.inj H;have p103:0≤(x5_1:Int):=od_;have q103:x5_1 < (l0.length:Int):=od_;obtain⟨ad103,A103_1,c103_1,e103,hx103_0,hx103_1,hl103_1,hi103_1⟩:=at_T133 HR0.out x5_1 p103 q103;cases e103;replace hx103_0:=hb_ HB hx103_0;replace hx103_1:=hb_ HB hx103_1;have HR103_1:=am_ hi103_1;have HC103_1:=am_ hl103_1;clear hi103_1 hl103_1;replace p103:=eq_true p103;replace q103:=eq_true q103;go_wp2_with (first|((with_reducible refine gc_ 116 rfl ?_);refine gk_ 23 Try.func116 (laws_szLane.calls ((rd_T133 l0 x5_1).f0) _ _ ((rd_T133 l0 x5_1).f1) x1_1 t104 _ ?side1 ?side2 A6.out) ?_;(case side1=>repeat (first|exact(Kd.C_below HR103_1.out HB.out)|(with_reducible refine Kd.C_alloc ?_ _)|(with_reducible refine Kd.C_drewN ?_ _)|(with_reducible refine Kd.C_drew ?_)));(case side2=>exact HC103_1.out);rintro e w8 ⟨rfl,hb⟩;refine⟨_,rfl,?_⟩;replace HB:=am_ (below_step (be_ HB) hb);clear hb));go_ret;exact⟨er_,be_ HB⟩
      ·rw [if_neg c7]at H;have c7b0:decide (t104 < 0)=false:=decide_eq_false c7;clear c7;have H':=am_ H;clear H;have p103:0≤(x5_1:Int):=od_;have q103:x5_1 < (l0.length:Int):=od_;obtain⟨ad103,A103_1,c103_1,e103,hx103_0,hx103_1,hl103_1,hi103_1⟩:=at_T133 HR0.out x5_1 p103 q103;cases e103;replace hx103_0:=hb_ HB hx103_0;replace hx103_1:=hb_ HB hx103_1;have HR103_1:=am_ hi103_1;have HC103_1:=am_ hl103_1;clear hi103_1 hl103_1;replace p103:=eq_true p103;replace q103:=eq_true q103;go_wp2_with (first|((with_reducible refine gc_ 116 rfl ?_);refine gk_ 23 Try.func116 (laws_szLane.calls ((rd_T133 l0 x5_1).f0) _ _ ((rd_T133 l0 x5_1).f1) x1_1 t104 _ ?side1 ?side2 A6.out) ?_;(case side1=>repeat (first|exact(Kd.C_below HR103_1.out HB.out)|(with_reducible refine Kd.C_alloc ?_ _)|(with_reducible refine Kd.C_drewN ?_ _)|(with_reducible refine Kd.C_drew ?_)));(case side2=>exact HC103_1.out);rintro e w9 ⟨rfl,hb⟩;refine⟨_,rfl,?_⟩;replace HB:=am_ (below_step (be_ HB) hb);clear hb))
       go_roundg k1
       case measure=>have:=HK1.out;omega
       case rel=>exact⟨(t104),(wrap64 (x5_1+1)),re_,re_,H',⟨by have:=HK1.out;omega⟩,⟨be_ HB⟩⟩
     ·rw [if_neg c5]at H;exact absurd H (by simp)
    ·rw [if_neg c4]at H;have c4b0:decide (x5_1 < (l0.length:Int))=false:=decide_eq_false c4;clear c4;obtain rfl:=Option.some.inj H;go_wp2;go_ret;exact⟨er_,be_ HB⟩

/-! ### laws_szBuf: function 24 -/
def laws_szBuf.f (k:Nat) (a0_0:Int) (a0_1:Int) (a0_2:Int) (a0_3:Int) (a0_4:Bool) (l0_5:List (S133)) (a1:Int):Option (Int):=(laws_szLaneS.f k l0_5 a1).bind fun t106=>(if t106 < 0 then(some (-1)) else(some t106))
theorem laws_szBuf.mono:∀ a0 a1 a2 a3 a4 a5 a6 k,LeO (laws_szBuf.f k a0 a1 a2 a3 a4 a5 a6) (laws_szBuf.f (k+1) a0 a1 a2 a3 a4 a5 a6):=by
 intro a0 a1 a2 a3 a4 a5 a6 k;unfold laws_szBuf.f
 repeat' (first|(with_reducible exact laws_szLaneS.mono _ _ _)|(with_reducible exact LeO.refl _)|(with_reducible exact LeO.none _)|(with_reducible refine LeO.ite ?_ ?_)|(with_reducible refine LeO.bind ?_ (fun _=>?_))|exact laws_szLaneS.mono _ _ _|exact LeO.none _|refine LeO.ite ?_ ?_|refine LeO.bind ?_ (fun _=>?_))
set_option maxHeartbeats 80000000 in
set_option maxRecDepth 100000 in
theorem laws_szBuf.calls (k:Nat) (a0_0:Int) (a0_1:Int) (a0_2:Int) (a0_3:Int) (a0_4:Bool) (A0_5:Option Addr) (c0_5:Nat) (l0_5:List (S133)) (a1:Int) (r:Int) (w:World) (hr0_5:Kd.C k133 w A0_5 l0_5.length l0_5) (hc0_5:l0_5.length≤c0_5) (h:laws_szBuf.f k a0_0 a0_1 a0_2 a0_3 a0_4 l0_5 a1=some r) :
  Calls Try.prog 24 #[.agg #[.int .i64 a0_0,.int .i64 a0_1,.int .i64 a0_2,.int .i64 a0_3,.bool a0_4,.slice A0_5 l0_5.length c0_5],.int .i64 a1] w fun e w'=>e=.returned (.int .i64 r)∧Below w.heap.size w w':=by
 have hu40:=Try.underlying40;have HR0_5:=am_ hr0_5;have HC0_5:=am_ hc0_5;clear hr0_5 hc0_5;have HB:=am_ (Below.refl w.heap.size w);have H:=h;clear h;unfold laws_szBuf.f at H;replace H:=bm1_ H;obtain⟨t106,A3,H⟩:=H
 by_cases c4:t106 < 0
 ·rw [if_pos c4]at H;have c4b0:decide (t106 < 0)=true:=decide_eq_true c4;clear c4;obtain rfl:=Option.some.inj H
  go_enter Try.func24,Try.ntmps24
  go_wp2_with (first|((with_reducible refine gd_ 2 rfl ?_);refine bv_ 2 #[.int .i64 a0_0,.int .i64 a0_1,.int .i64 a0_2,.int .i64 a0_3,.bool a0_4,.slice A0_5 l0_5.length c0_5] 40 ?_;intro gb105 hg w5 hbox hb;have B105:=am_ (hbox);have GW105:=gw_ HB hg;have GE105:=gw_ HB hg;replace HB:=am_ (below_step (be_ HB) hb);clear hb hbox hg;obtain⟨Z6_0,Z6_1,Z6_2,Z6_3,Z6_4,Z6_5,F6_0,F6_1,F6_2,F6_3,F6_4,F6_5⟩:=bz6_ B105)|((with_reducible refine gc_ 70 rfl ?_);refine gk_ 8 Try.func70 (laws_szLaneS.calls k _ _ l0_5 a1 t106 _ ?side1 ?side2 A3.out) ?_;(case side1=>repeat (first|exact(Kd.C_below HR0_5.out HB.out)|(with_reducible refine Kd.C_alloc ?_ _)|(with_reducible refine Kd.C_drewN ?_ _)|(with_reducible refine Kd.C_drew ?_)));(case side2=>exact HC0_5.out);rintro e w7 ⟨rfl,hb⟩;refine⟨_,rfl,?_⟩;replace B105:=bb_ B105 hb;replace HB:=sb_ HB hb;clear hb));go_ret;exact⟨er_,bf_ HB⟩
 ·rw [if_neg c4]at H;have c4b0:decide (t106 < 0)=false:=decide_eq_false c4;clear c4;obtain rfl:=Option.some.inj H
  go_enter Try.func24,Try.ntmps24
  go_wp2_with (first|((with_reducible refine gd_ 2 rfl ?_);refine bv_ 2 #[.int .i64 a0_0,.int .i64 a0_1,.int .i64 a0_2,.int .i64 a0_3,.bool a0_4,.slice A0_5 l0_5.length c0_5] 40 ?_;intro gb105 hg w8 hbox hb;have B105:=am_ (hbox);have GW105:=gw_ HB hg;have GE105:=gw_ HB hg;replace HB:=am_ (below_step (be_ HB) hb);clear hb hbox hg;obtain⟨Z9_0,Z9_1,Z9_2,Z9_3,Z9_4,Z9_5,F9_0,F9_1,F9_2,F9_3,F9_4,F9_5⟩:=bz6_ B105)|((with_reducible refine gc_ 70 rfl ?_);refine gk_ 8 Try.func70 (laws_szLaneS.calls k _ _ l0_5 a1 t106 _ ?side1 ?side2 A3.out) ?_;(case side1=>repeat (first|exact(Kd.C_below HR0_5.out HB.out)|(with_reducible refine Kd.C_alloc ?_ _)|(with_reducible refine Kd.C_drewN ?_ _)|(with_reducible refine Kd.C_drew ?_)));(case side2=>exact HC0_5.out);rintro e w10 ⟨rfl,hb⟩;refine⟨_,rfl,?_⟩;replace B105:=bb_ B105 hb;replace HB:=sb_ HB hb;clear hb));go_ret;exact⟨er_,bf_ HB⟩

/-! ### laws_toLimits: function 78 -/
def laws_toLimits.f (a0_0:Int) (a0_1:Int) (a0_2:Int) (a0_3:Int) (a0_4:Bool):Option (Int × Int × Int × Int × Bool):=some (a0_0,a0_1,a0_2,a0_3,a0_4)
set_option maxHeartbeats 80000000 in
set_option maxRecDepth 100000 in
theorem laws_toLimits.calls (a0_0:Int) (a0_1:Int) (a0_2:Int) (a0_3:Int) (a0_4:Bool) (r1:Int) (r2:Int) (r3:Int) (r4:Int) (r5:Bool) (w:World) (h:laws_toLimits.f a0_0 a0_1 a0_2 a0_3 a0_4=some (r1,r2,r3,r4,r5)) :
  Calls Try.prog 78 #[.agg #[.int .i64 a0_0,.int .i64 a0_1,.int .i64 a0_2,.int .i64 a0_3,.bool a0_4]] w fun e w'=>e=.returned (.agg #[.int .i64 r1,.int .i64 r2,.int .i64 r3,.int .i64 r4,.bool r5])∧Below w.heap.size w w':=by
 have hu37:=Try.underlying37;have hu44:=Try.underlying44;have HB:=am_ (Below.refl w.heap.size w);have H:=h;clear h;unfold laws_toLimits.f at H;simp only [Option.some.injEq,Prod.mk.injEq]at H;obtain⟨rfl,rfl,rfl,rfl,rfl⟩:=H
 go_enter Try.func78,Try.ntmps78
 go_wp2_with (first|((with_reducible refine gd_ 1 rfl ?_);refine bv_ 1 #[.int .i64 a0_0,.int .i64 a0_1,.int .i64 a0_2,.int .i64 a0_3,.bool a0_4] 37 ?_;intro gb107 hg w2 hbox hb;have B107:=am_ (hbox);have GW107:=gw_ HB hg;have GE107:=gw_ HB hg;replace HB:=am_ (below_step (be_ HB) hb);clear hb hbox hg)|((with_reducible refine gd_ 2 rfl ?_);refine bv_ 2 #[.int .i64 0,.int .i64 0,.int .i64 0,.int .i64 0,.bool false] 44 ?_;intro gb108 hg w3 hbox hb;have B108:=am_ (hbox);have GW108:=gw_ HB hg;have GE108:=gw_ HB hg;replace HB:=sb_ HB hb;have D107_108:=nl_ B107 hg;have D108_107:=ng_ B107 hg;replace B107:=bb_ B107 hb;clear hb hbox hg)|((with_reducible refine gd_ 3 rfl ?_);refine bv_ 3 #[.int .i64 0,.int .i64 0,.int .i64 0,.int .i64 0,.bool false] 44 ?_;intro gb109 hg w4 hbox hb;have B109:=am_ (hbox);have GW109:=gw_ HB hg;have GE109:=gw_ HB hg;replace HB:=sb_ HB hb;have D107_109:=nl_ B107 hg;have D109_107:=ng_ B107 hg;replace B107:=bb_ B107 hb;have D108_109:=nl_ B108 hg;have D109_108:=ng_ B108 hg;replace B108:=bb_ B108 hb;clear hb hbox hg;obtain⟨hnb5,hnc5⟩:=nn_ D107_108;obtain⟨hnb6,hnc6⟩:=nn_ D107_109;obtain⟨Z7_0,Z7_1,Z7_2,Z7_3,Z7_4,F7_0,F7_1,F7_2,F7_3,F7_4⟩:=bz5_ B107;obtain⟨hnb8,hnc8⟩:=nn_ D109_108;obtain⟨Z9_0,Z9_1,Z9_2,Z9_3,Z9_4,F9_0,F9_1,F9_2,F9_3,F9_4⟩:=bz5_ B109;obtain⟨Z10_0,Z10_1,Z10_2,Z10_3,Z10_4,F10_0,F10_1,F10_2,F10_3,F10_4⟩:=bz5_ B108));refine bodyPost_ret (results_cell_row rfl _ _ gb108 44 #[.int .i64 a0_0,.int .i64 a0_1,.int .i64 a0_2,.int .i64 a0_3,.bool a0_4] (0,0) _ rfl (bq_ B108) Try.underlying44 rfl (by kernel_rfl)) rfl ?_;exact⟨er_,bf_ HB⟩

/-! ### laws_toHeld: function 27 -/
def laws_toHeld.f (a0_0:Int) (a0_1:Int):Option (Int × Int):=some (a0_0,a0_1)
set_option maxHeartbeats 80000000 in
set_option maxRecDepth 100000 in
theorem laws_toHeld.calls (a0_0:Int) (a0_1:Int) (r1:Int) (r2:Int) (w:World) (h:laws_toHeld.f a0_0 a0_1=some (r1,r2)) :
  Calls Try.prog 27 #[.agg #[.int .i64 a0_0,.int .i64 a0_1]] w fun e w'=>e=.returned (.agg #[.int .i64 r1,.int .i64 r2])∧Below w.heap.size w w':=by
 have hu42:=Try.underlying42;have hu52:=Try.underlying52;have HB:=am_ (Below.refl w.heap.size w);have H:=h;clear h;unfold laws_toHeld.f at H;simp only [Option.some.injEq,Prod.mk.injEq]at H;obtain⟨rfl,rfl⟩:=H
 go_enter Try.func27,Try.ntmps27
 go_wp2_with (first|((with_reducible refine gd_ 1 rfl ?_);refine bv_ 1 #[.int .i64 a0_0,.int .i64 a0_1] 42 ?_;intro gb110 hg w2 hbox hb;have B110:=am_ (hbox);have GW110:=gw_ HB hg;have GE110:=gw_ HB hg;replace HB:=am_ (below_step (be_ HB) hb);clear hb hbox hg)|((with_reducible refine gd_ 2 rfl ?_);refine bv_ 2 #[.int .i64 0,.int .i64 0] 52 ?_;intro gb111 hg w3 hbox hb;have B111:=am_ (hbox);have GW111:=gw_ HB hg;have GE111:=gw_ HB hg;replace HB:=sb_ HB hb;have D110_111:=nl_ B110 hg;have D111_110:=ng_ B110 hg;replace B110:=bb_ B110 hb;clear hb hbox hg)|((with_reducible refine gd_ 3 rfl ?_);refine bv_ 3 #[.int .i64 0,.int .i64 0] 52 ?_;intro gb112 hg w4 hbox hb;have B112:=am_ (hbox);have GW112:=gw_ HB hg;have GE112:=gw_ HB hg;replace HB:=sb_ HB hb;have D110_112:=nl_ B110 hg;have D112_110:=ng_ B110 hg;replace B110:=bb_ B110 hb;have D111_112:=nl_ B111 hg;have D112_111:=ng_ B111 hg;replace B111:=bb_ B111 hb;clear hb hbox hg;obtain⟨hnb5,hnc5⟩:=nn_ D110_111;obtain⟨hnb6,hnc6⟩:=nn_ D110_112;obtain⟨Z7_0,Z7_1,F7_0,F7_1⟩:=bz2_ B110;obtain⟨hnb8,hnc8⟩:=nn_ D112_111;obtain⟨Z9_0,Z9_1,F9_0,F9_1⟩:=bz2_ B112;obtain⟨Z10_0,Z10_1,F10_0,F10_1⟩:=bz2_ B111));refine bodyPost_ret (results_cell_row rfl _ _ gb111 52 #[.int .i64 a0_0,.int .i64 a0_1] (0,0) _ rfl (bq_ B111) Try.underlying52 rfl (by kernel_rfl)) rfl ?_;exact⟨er_,bf_ HB⟩

/-! ### laws_toHeldS: function 149 -/
def laws_toHeldS.l0:Nat→List (S42)→List (S52)→Int→Option ((List (S52)))
  | 0,_,_,_=>none
  | k+1,x0,x3,x4=>if x4 < (x0.length:Int) then(if 0≤x4 then((laws_toHeld.f ((rd_T42 x0 x4).f0) ((rd_T42 x0 x4).f1)).bind fun bt117=>(if x4 < (x3.length:Int) then(laws_toHeldS.l0 k x0 (x3.set (x4:Int).toNat (⟨bt117.1,bt117.2⟩:S52)) (wrap64 (x4+1))) else(none))) else(none)) else(some x3)
def laws_toHeldS.f (k:Nat) (l0:List (S42)):Option ((List (S52))):=if 0≤(l0.length:Int) then(if ((l0.length:Int):Int).toNat≤17592186044416 then(laws_toHeldS.l0 k l0 (List.replicate ((l0.length:Int):Int).toNat z52) 0) else(none)) else(none)
theorem laws_toHeldS.mono_l:∀ k,(∀ y0 y1 y2,LeO (laws_toHeldS.l0 k y0 y1 y2) (laws_toHeldS.l0 (k+1) y0 y1 y2))
 | 0=>fun _ _ _ r h=>by simp [laws_toHeldS.l0]at h
 | k+1=>by
  have ih0:=laws_toHeldS.mono_l k
  ·intro y0 y1 y2;unfold laws_toHeldS.l0
   repeat' (first|(with_reducible exact ih0 ..)|(with_reducible exact LeO.refl _)|(with_reducible exact LeO.none _)|(with_reducible refine LeO.ite ?_ ?_)|(with_reducible refine LeO.bind ?_ (fun _=>?_))|exact ih0 ..|exact LeO.none _|refine LeO.ite ?_ ?_|refine LeO.bind ?_ (fun _=>?_))
theorem laws_toHeldS.mono:∀ a0 k,LeO (laws_toHeldS.f k a0) (laws_toHeldS.f (k+1) a0):=by
 intro a0 k;have ih0:=laws_toHeldS.mono_l k;unfold laws_toHeldS.f
 repeat' (first|(with_reducible exact ih0 ..)|(with_reducible exact LeO.refl _)|(with_reducible exact LeO.none _)|(with_reducible refine LeO.ite ?_ ?_)|(with_reducible refine LeO.bind ?_ (fun _=>?_))|exact ih0 ..|exact LeO.none _|refine LeO.ite ?_ ?_|refine LeO.bind ?_ (fun _=>?_))
set_option maxHeartbeats 80000000 in
set_option maxRecDepth 100000 in
theorem laws_toHeldS.calls (k:Nat) (A0:Option Addr) (c0:Nat) (l0:List (S42)) (r:List (S52)) (w:World) (hr0:Kd.C k42 w A0 l0.length l0) (hc0:l0.length≤c0) (h:laws_toHeldS.f k l0=some r) :
  Calls Try.prog 149 #[.slice A0 l0.length c0] w fun e w'=>∃ v0_:Value,e=.returned (v0_)∧Kd.R k52 52 w' w.heap.size (fun _=>True) v0_ r∧Below w.heap.size w w':=by
 have hu42:=Try.underlying42;have hu52:=Try.underlying52;have HR0:=am_ hr0;have HC0:=am_ hc0;clear hr0 hc0;have HB:=am_ (Below.refl w.heap.size w);have H:=h;clear h;unfold laws_toHeldS.f at H
 by_cases c2:0≤(l0.length:Int)
 ·rw [if_pos c2]at H;have c2b0:=eq_true c2;have c2b1:decide (0≤(l0.length:Int))=true:=decide_eq_true c2;clear c2
  by_cases c3:((l0.length:Int):Int).toNat≤17592186044416
  ·rw [if_pos c3]at H;have c3b0:=eq_true c3;have c3b1:decide (((l0.length:Int):Int).toNat≤17592186044416)=true:=decide_eq_true c3;clear c3;obtain⟨y113,hy113⟩:∃ y_:List (S52),y_=(List.replicate ((l0.length:Int):Int).toNat z52):=⟨_,rfl⟩;replace H:(laws_toHeldS.l0 k l0 y113 0)=some r:=(by first|(rw [hy113];with_reducible exact H)|(have H2_:=(Option.bind_some _ _).symm.trans H;rw [hy113];with_reducible exact H2_)|(have H2_:=(Option.bind_some _ _).symm.trans H;with_reducible exact H2_)|with_reducible exact H|(rw [hy113];exact H)|exact H);have Ny113:=am_ hy113;clear hy113;have H':=am_ H;clear H
   go_enter Try.func149,Try.ntmps149
   go_wp2_with (first|((with_reducible refine gd_ 7 rfl ?_);refine Kd.R_make k52 _ 52 rfl (N:=7) rfl 78 _ _ rfl (l0.length:Int) rfl rfl Try.underlying78 (.agg #[(.int .i64 0),(.int .i64 0)]) 16 info52 rfl (by decide) (by omega) z52 (ok:=fun _=>True) (okp:=fun _=>True) (k52_mkM _ _ _ z52 ) (fun _ hk=>by first|exact hk|grind) trivial (od_) (Nat.le_trans (Nat.mul_le_mul_right _ (od_:(l0.length:Int).toNat≤17592186044416)) (by omega)) (Below.refl _ _) (Nat.le_refl _) ?_;intro v114 w4 ho5 hb hg_ hnew_;clear hg_ hnew_;(first|rw [← Ny113.out]at ho5|(simp only [Int.reduceToNat]at ho5;rw [← Ny113.out]at ho5));have HO115:=am_ (Kd.R_lower ho5 (below_size (be_ HB)));replace HB:=am_ (below_step (be_ HB) hb);clear hb ho5))
   go_loopg [4] k (fun kq v4 w'=>∃ (x3_1:List (S52)) (x4_1:Int),v4=.int .i64 x4_1∧Aside0 (laws_toHeldS.l0 kq l0 x3_1 x4_1=some r)∧Aside0 (kq≤k)∧Aside0 (Kd.R k52 52 w' w.heap.size (fun _=>True) v114 x3_1)∧Aside0 (Below w.heap.size w w'))
   case atStart=>exact⟨(y113),(0),re_,H',⟨Nat.le_refl _⟩,⟨kr_ HO115⟩,⟨be_ HB⟩⟩
   case round =>
    clear H';(try clear c2);(try clear c2b0);(try clear c2b1);(try clear c3);(try clear c3b0);(try clear c3b1);obtain⟨x3_1,x4_1,rfl,HA,HK1,HO_3,HB⟩:=hrel
    cases gk with
    | zero=>exact absurd HA.out (by simp [laws_toHeldS.l0])
    | succ k1 =>
     have H:=HA.out;clear HA;simp only [laws_toHeldS.l0]at H
     by_cases c6:x4_1 < (l0.length:Int)
     ·rw [if_pos c6]at H;have c6b0:decide (x4_1 < (l0.length:Int))=true:=decide_eq_true c6;clear c6
      by_cases c7:0≤x4_1
      ·rw [if_pos c7]at H;have c7b0:decide (0≤x4_1)=true:=decide_eq_true c7;clear c7;replace H:=bm1_ H;obtain⟨⟨t117,t118⟩,A8,H⟩:=H
       by_cases c9:x4_1 < (x3_1.length:Int)
       ·rw [if_pos c9]at H;have c9b0:decide (x4_1 < (x3_1.length:Int))=true:=decide_eq_true c9;clear c9;obtain⟨y119,hy119⟩:∃ y_:List (S52),y_=(x3_1.set (x4_1:Int).toNat (⟨t117,t118⟩:S52)):=⟨_,rfl⟩;replace H:(laws_toHeldS.l0 k1 l0 y119 (wrap64 (x4_1+1)))=some r:=(by first|(rw [hy119];with_reducible exact H)|(have H2_:=(Option.bind_some _ _).symm.trans H;rw [hy119];with_reducible exact H2_)|(have H2_:=(Option.bind_some _ _).symm.trans H;with_reducible exact H2_)|with_reducible exact H|(rw [hy119];exact H)|exact H);have Ny119:=am_ hy119;clear hy119;have H':=am_ H;clear H;have p116:0≤(x4_1:Int):=od_;have q116:x4_1 < (l0.length:Int):=od_;obtain⟨ad116,e116,hw116_0,hw116_1⟩:=at_T42 HR0.out x4_1 p116 q116;cases e116;obtain⟨hx116_0,hx116_1⟩:=hb2_ HB hw116_0 hw116_1;replace p116:=eq_true p116;replace q116:=eq_true q116;go_wp2_with (first|((with_reducible refine gc_ 27 rfl ?_);refine gk_ 20 Try.func27 (laws_toHeld.calls ((rd_T42 l0 x4_1).f0) ((rd_T42 l0 x4_1).f1) t117 t118 _ A8.out) ?_;rintro e w11 ⟨rfl,hb⟩;refine⟨_,rfl,?_⟩;replace HO_3:=ob_ HO_3 hb;replace HB:=am_ (below_step (be_ HB) hb);clear hb;have p10:0≤(x4_1:Int):=od_;have q10:(x4_1:Int) < ((x3_1.length:Int):Int):=od_;obtain⟨go10,co10,eo10,gb10,gl10,cl10,HG10⟩:=Kd.R_form HO_3.out (by omega);(first|cases eo10|(injection eo10 with ea_ en_ ec_;(first|subst ea_|(injection ea_ with ea_;subst ea_));subst ec_;clear en_));have GB10:=am_ gb10;have GG10:=am_ HG10;clear gb10 gl10 HG10;obtain⟨ce10,hcl10,hM10,hcc10,hfr10⟩:=Kd.R_elem HO_3.out z52 (x4_1:Int) p10 q10;obtain rfl:=k52_openM hM10;have hx10_0:w11.cell? ⟨go10,(x4_1:Int).toNat * 2,none⟩=some (.int .i64 ((rd_T52 x3_1 x4_1).f0)):=hcc10 0 _ rfl;have hx10_1:w11.cell? ⟨go10,(x4_1:Int).toNat * 2+1,none⟩=some (.int .i64 ((rd_T52 x3_1 x4_1).f1)):=hcc10 1 _ rfl;have hf10_0:w11.frozen? ⟨go10,(x4_1:Int).toNat * 2,none⟩=false:=hfr10 0;have hf10_1:w11.frozen? ⟨go10,(x4_1:Int).toNat * 2+1,none⟩=false:=hfr10 1;clear hcl10 hcc10 hfr10 hM10;replace p10:=eq_true p10;replace q10:=eq_true q10;have HX12:=am_ (show Kd.R k52 52 w11 w.heap.size (fun _=>True) (.slice (some ⟨go10,0,none⟩) x3_1.length co10) x3_1 from(kr_ HO_3));obtain⟨ce12,hcl12,hM12,hcc12,hfr12⟩:=Kd.R_elem HX12.out z52 (x4_1:Int) (od_) (by have h_:(x4_1:Int) < ((x3_1.length:Int):Int):=od_;first|exact h_|(have e_:=(Kd.R_reads' HO_3.out).1;omega)|simpa using h_);obtain rfl:=k52_openM hM12;have HP12:=Kd.R_seg HX12.out (x4_1:Int) (od_) (by have h_:(x4_1:Int) < ((x3_1.length:Int):Int):=od_;first|exact h_|(have e_:=(Kd.R_reads' HO_3.out).1;omega)|simpa using h_) (seg:=[.int .i64 t117,.int .i64 t118]) (j:=0) hcl12 hcc12 (show 2≤2 from by decide) (x':=(⟨t117,t118⟩:S52)) (k52_mkM _ _ _ (⟨t117,t118⟩:S52) ) (fun _ hk=>by first|exact hk|grind);have hx12_0:=hcc12 0 _ rfl;(try simp only [show (k52).sz=2 from rfl,Nat.mul_one,Nat.add_zero]at hx12_0);have hf12_0:=hfr12 0;(try simp only [show (k52).sz=2 from rfl,Nat.mul_one,Nat.add_zero]at hf12_0);have hx12_1:=hcc12 1 _ rfl;(try simp only [show (k52).sz=2 from rfl,Nat.mul_one,Nat.add_zero]at hx12_1);have hf12_1:=hfr12 1;(try simp only [show (k52).sz=2 from rfl,Nat.mul_one,Nat.add_zero]at hf12_1);clear hcl12 hcc12 hfr12 hM12)|((with_reducible refine gate_store (t:=52) (p:=21) rfl ?_);refine store_event (t:=52) (p:=21) (v:=?vo_w13) (w1:=((w11.setCell ⟨go10,(x4_1:Int).toNat * 2,none⟩ (.int .i64 t117)).setCell ⟨go10,(x4_1:Int).toNat * 2+1,none⟩ (.int .i64 t118))) ?hg ?ho ?hn ?hr ?_;(case ho=>rfl);(case hg=>rfl);(case hn=>rfl);(case hr=>first|(go_simp;done)|(go_simp;rfl));intro w13 hw;have hg:w11.grownBy w13 (some go10):=(by rw [hw];exact HP12.2);have hp_:Kd.R k52 52 w13 w.heap.size (fun _=>True) (.slice (some ⟨go10,0,none⟩) x3_1.length co10) y119:=(by rw [hw,Ny119.out];exact HP12.1);clear HP12;replace HO_3:=am_ (hp_);replace HB:=am_ ((by rw [hw];exact below_set (below_set (HB.out) GB10.out) GB10.out:Below w.heap.size w w13));clear hg hw hp_))
        go_roundg k1
        case measure=>have:=HK1.out;omega
        case rel=>exact⟨(y119),(wrap64 (x4_1+1)),re_,H',⟨by have:=HK1.out;omega⟩,⟨kr_ HO_3⟩,⟨be_ HB⟩⟩
       ·rw [if_neg c9]at H;exact absurd H (by simp)
      ·rw [if_neg c7]at H;exact absurd H (by simp)
     ·rw [if_neg c6]at H;have c6b0:decide (x4_1 < (l0.length:Int))=false:=decide_eq_false c6;clear c6;obtain rfl:=Option.some.inj H;go_wp2;go_ret;exact⟨_,er_,by(with_reducible repeat (first|apply Kd.R_alloc|apply Kd.R_drewN|apply Kd.R_drew));exact HO_3.out,be_ HB⟩
  ·rw [if_neg c3]at H;exact absurd H (by simp)
 ·rw [if_neg c2]at H;exact absurd H (by simp)

/-! ### laws_toLane: function 117 -/
def laws_toLane.f (k:Nat) (a0_0:Int) (l0_1:List (S42)):Option (Int × (List (S52))):=(laws_toHeldS.f k l0_1).bind fun t123=>(some (a0_0,t123))
theorem laws_toLane.mono:∀ a0 a1 k,LeO (laws_toLane.f k a0 a1) (laws_toLane.f (k+1) a0 a1):=by
 intro a0 a1 k;unfold laws_toLane.f
 repeat' (first|(with_reducible exact laws_toHeldS.mono _ _)|(with_reducible exact LeO.refl _)|(with_reducible exact LeO.none _)|(with_reducible refine LeO.ite ?_ ?_)|(with_reducible refine LeO.bind ?_ (fun _=>?_))|exact laws_toHeldS.mono _ _|exact LeO.none _|refine LeO.ite ?_ ?_|refine LeO.bind ?_ (fun _=>?_))
set_option maxHeartbeats 80000000 in
set_option maxRecDepth 100000 in
theorem laws_toLane.calls (k:Nat) (a0_0:Int) (A0_1:Option Addr) (c0_1:Nat) (l0_1:List (S42)) (r1:Int) (r2:List (S52)) (w:World) (hr0_1:Kd.C k42 w A0_1 l0_1.length l0_1) (hc0_1:l0_1.length≤c0_1) (h:laws_toLane.f k a0_0 l0_1=some (r1,r2)) :
  Calls Try.prog 117 #[.agg #[.int .i64 a0_0,.slice A0_1 l0_1.length c0_1]] w fun e w'=>∃ v1_:Value,e=.returned (.agg #[.int .i64 r1,v1_])∧Kd.R k52 52 w' w.heap.size (fun _=>True) v1_ r2∧Below w.heap.size w w':=by
 have hu133:=Try.underlying133;have hu80:=Try.underlying80;have HR0_1:=am_ hr0_1;have HC0_1:=am_ hc0_1;clear hr0_1 hc0_1;have HB:=am_ (Below.refl w.heap.size w);have H:=h;clear h;unfold laws_toLane.f at H;replace H:=bm1_ H;obtain⟨t123,A2,H⟩:=H;simp only [Option.some.injEq,Prod.mk.injEq]at H;obtain⟨rfl,rfl⟩:=H
 go_enter Try.func117,Try.ntmps117
 go_wp2_with (first|((with_reducible refine gd_ 1 rfl ?_);refine bv_ 1 #[.int .i64 a0_0,.slice A0_1 l0_1.length c0_1] 133 ?_;intro gb120 hg w3 hbox hb;have B120:=am_ (hbox);have GW120:=gw_ HB hg;have GE120:=gw_ HB hg;replace HB:=am_ (below_step (be_ HB) hb);clear hb hbox hg)|((with_reducible refine gd_ 2 rfl ?_);refine bv_ 2 #[.int .i64 0,.slice none 0 0] 80 ?_;intro gb121 hg w4 hbox hb;have B121:=am_ (hbox);have GW121:=gw_ HB hg;have GE121:=gw_ HB hg;replace HB:=sb_ HB hb;have D120_121:=nl_ B120 hg;have D121_120:=ng_ B120 hg;replace B120:=bb_ B120 hb;clear hb hbox hg)|((with_reducible refine gd_ 3 rfl ?_);refine bv_ 3 #[.int .i64 0,.slice none 0 0] 80 ?_;intro gb122 hg w5 hbox hb;have B122:=am_ (hbox);have GW122:=gw_ HB hg;have GE122:=gw_ HB hg;replace HB:=sb_ HB hb;have D120_122:=nl_ B120 hg;have D122_120:=ng_ B120 hg;replace B120:=bb_ B120 hb;have D121_122:=nl_ B121 hg;have D122_121:=ng_ B121 hg;replace B121:=bb_ B121 hb;clear hb hbox hg;obtain⟨hnb6,hnc6⟩:=nn_ D120_121;obtain⟨hnb7,hnc7⟩:=nn_ D120_122;obtain⟨Z8_0,Z8_1,F8_0,F8_1⟩:=bz2_ B120;obtain⟨hnb9,hnc9⟩:=nn_ D122_121;obtain⟨Z10_0,Z10_1,F10_0,F10_1⟩:=bz2_ B122)|((with_reducible refine gc_ 149 rfl ?_);refine gk_ 9 Try.func149 (laws_toHeldS.calls k _ _ l0_1 t123 _ ?side1 ?side2 A2.out) ?_;(case side1=>exact Kd.C_below HR0_1.out (bf_ HB));(case side2=>exact HC0_1.out);rintro e w11 ⟨v124,rfl,ho0,hb⟩;refine⟨_,rfl,?_⟩;have HO125:=am_ (Kd.R_lower ho0 (below_size (bf_ HB)));replace B120:=bm_ B120 hb;replace B121:=bm_ B121 hb;replace B122:=am_ (blk_below (g:=gb122) (o:=.cells #[.int .i64 a0_0,.slice none 0 0] 80 (0,0)) (bq_ B122) hb);replace HB:=sb_ HB hb;clear hb ho0;obtain⟨Ao12,co12,eo12⟩:=Kd.R_slice HO125.out;subst eo12;obtain⟨Z13_0,Z13_1,F13_0,F13_1⟩:=bz2_ B122;obtain⟨Z14_0,Z14_1,F14_0,F14_1⟩:=bz2_ B121));refine bodyPost_ret (results_cell_row rfl _ _ gb121 80 #[.int .i64 a0_0,.slice Ao12 t123.length co12] (0,0) _ rfl (bq_ B121) Try.underlying80 rfl (by kernel_rfl)) rfl ?_;exact⟨_,er_,kf2_ HO125 B122 B121,bf_ HB⟩

/-! ### laws_toLaneS: function 79 -/
def laws_toLaneS.l0:Nat→List (S133)→List (S80)→Int→Option ((List (S80)))
  | 0,_,_,_=>none
  | k+1,x0,x3,x4=>if x4 < (x0.length:Int) then(if 0≤x4 then((laws_toLane.f k ((rd_T133 x0 x4).f0) ((rd_T133 x0 x4).f1)).bind fun bt130=>(if x4 < (x3.length:Int) then(laws_toLaneS.l0 k x0 (x3.set (x4:Int).toNat (⟨bt130.1,bt130.2⟩:S80)) (wrap64 (x4+1))) else(none))) else(none)) else(some x3)
def laws_toLaneS.f (k:Nat) (l0:List (S133)):Option ((List (S80))):=if 0≤(l0.length:Int) then(if ((l0.length:Int):Int).toNat≤8796093022208 then(laws_toLaneS.l0 k l0 (List.replicate ((l0.length:Int):Int).toNat z80) 0) else(none)) else(none)
theorem laws_toLaneS.mono_l:∀ k,(∀ y0 y1 y2,LeO (laws_toLaneS.l0 k y0 y1 y2) (laws_toLaneS.l0 (k+1) y0 y1 y2))
 | 0=>fun _ _ _ r h=>by simp [laws_toLaneS.l0]at h
 | k+1=>by
  have ih0:=laws_toLaneS.mono_l k
  ·intro y0 y1 y2;unfold laws_toLaneS.l0
   repeat' (first|(with_reducible exact ih0 ..)|(with_reducible exact laws_toLane.mono _ _ _)|(with_reducible exact LeO.refl _)|(with_reducible exact LeO.none _)|(with_reducible refine LeO.ite ?_ ?_)|(with_reducible refine LeO.bind ?_ (fun _=>?_))|exact ih0 ..|exact laws_toLane.mono _ _ _|exact LeO.none _|refine LeO.ite ?_ ?_|refine LeO.bind ?_ (fun _=>?_))
theorem laws_toLaneS.mono:∀ a0 k,LeO (laws_toLaneS.f k a0) (laws_toLaneS.f (k+1) a0):=by
 intro a0 k;have ih0:=laws_toLaneS.mono_l k;unfold laws_toLaneS.f
 repeat' (first|(with_reducible exact ih0 ..)|(with_reducible exact laws_toLane.mono _ _ _)|(with_reducible exact LeO.refl _)|(with_reducible exact LeO.none _)|(with_reducible refine LeO.ite ?_ ?_)|(with_reducible refine LeO.bind ?_ (fun _=>?_))|exact ih0 ..|exact laws_toLane.mono _ _ _|exact LeO.none _|refine LeO.ite ?_ ?_|refine LeO.bind ?_ (fun _=>?_))
set_option maxHeartbeats 80000000 in
set_option maxRecDepth 100000 in
theorem laws_toLaneS.calls (k:Nat) (A0:Option Addr) (c0:Nat) (l0:List (S133)) (r:List (S80)) (w:World) (hr0:Kd.C k133 w A0 l0.length l0) (hc0:l0.length≤c0) (h:laws_toLaneS.f k l0=some r) :
  Calls Try.prog 79 #[.slice A0 l0.length c0] w fun e w'=>∃ v0_:Value,e=.returned (v0_)∧Kd.S k80 80 w' w.heap.size (fun _=>True) v0_ r∧Below w.heap.size w w':=by
 have hu133:=Try.underlying133;have hu80:=Try.underlying80;have HR0:=am_ hr0;have HC0:=am_ hc0;clear hr0 hc0;have HB:=am_ (Below.refl w.heap.size w);have H:=h;clear h;unfold laws_toLaneS.f at H
 by_cases c2:0≤(l0.length:Int)
 ·rw [if_pos c2]at H;have c2b0:=eq_true c2;have c2b1:decide (0≤(l0.length:Int))=true:=decide_eq_true c2;clear c2
  by_cases c3:((l0.length:Int):Int).toNat≤8796093022208
  ·rw [if_pos c3]at H;have c3b0:=eq_true c3;have c3b1:decide (((l0.length:Int):Int).toNat≤8796093022208)=true:=decide_eq_true c3;clear c3;obtain⟨y126,hy126⟩:∃ y_:List (S80),y_=(List.replicate ((l0.length:Int):Int).toNat z80):=⟨_,rfl⟩;replace H:(laws_toLaneS.l0 k l0 y126 0)=some r:=(by first|(rw [hy126];with_reducible exact H)|(have H2_:=(Option.bind_some _ _).symm.trans H;rw [hy126];with_reducible exact H2_)|(have H2_:=(Option.bind_some _ _).symm.trans H;with_reducible exact H2_)|with_reducible exact H|(rw [hy126];exact H)|exact H);have Ny126:=am_ hy126;clear hy126;have H':=am_ H;clear H
   go_enter Try.func79,Try.ntmps79
   go_wp2_with (first|((with_reducible refine gd_ 7 rfl ?_);refine Kd.S_make k80 _ 80 rfl (N:=7) rfl 45 _ _ rfl (l0.length:Int) rfl rfl Try.underlying45 (.agg #[(.int .i64 0),(.slice none 0 0)]) 32 info80 rfl (by decide) (by omega) z80 (ok:=fun _=>True) (okp:=fun _=>True) (k80_mkM _ _ _ z80 (Kd.R_nil _ _ _ _ _)) (fun _ hk=>by first|exact hk|grind) trivial (od_) (Nat.le_trans (Nat.mul_le_mul_right _ (od_:(l0.length:Int).toNat≤8796093022208)) (by omega)) (Below.refl _ _) (Nat.le_refl _) ?_;intro v127 w4 ho5 hb hg_ hnew_;clear hg_ hnew_;(first|rw [← Ny126.out]at ho5|(simp only [Int.reduceToNat]at ho5;rw [← Ny126.out]at ho5));have HO128:=am_ (Kd.S_lower ho5 (below_size (be_ HB)));replace HB:=am_ (below_step (be_ HB) hb);clear hb ho5))
   go_loopg [4] k (fun kq v4 w'=>∃ (x3_1:List (S80)) (x4_1:Int),v4=.int .i64 x4_1∧Aside0 (laws_toLaneS.l0 kq l0 x3_1 x4_1=some r)∧Aside0 (kq≤k)∧Aside0 (Kd.S k80 80 w' w.heap.size (fun _=>True) v127 x3_1)∧Aside0 (Below w.heap.size w w'))
   case atStart=>exact⟨(y126),(0),re_,H',⟨Nat.le_refl _⟩,⟨by(with_reducible repeat (first|apply Kd.S_alloc|apply Kd.S_drewN|apply Kd.S_drew));exact HO128.out⟩,⟨be_ HB⟩⟩
   case round =>
    clear H';(try clear c2);(try clear c2b0);(try clear c2b1);(try clear c3);(try clear c3b0);(try clear c3b1);obtain⟨x3_1,x4_1,rfl,HA,HK1,HO_3,HB⟩:=hrel
    cases gk with
    | zero=>exact absurd HA.out (by simp [laws_toLaneS.l0])
    | succ k1 =>
     have H:=HA.out;clear HA;simp only [laws_toLaneS.l0]at H
     by_cases c6:x4_1 < (l0.length:Int)
     ·rw [if_pos c6]at H;have c6b0:decide (x4_1 < (l0.length:Int))=true:=decide_eq_true c6;clear c6
      by_cases c7:0≤x4_1
      ·rw [if_pos c7]at H;have c7b0:decide (0≤x4_1)=true:=decide_eq_true c7;clear c7;replace H:=bm1_ H;obtain⟨⟨t130,t131⟩,A8,H⟩:=H
       by_cases c9:x4_1 < (x3_1.length:Int)
       ·rw [if_pos c9]at H;have c9b0:decide (x4_1 < (x3_1.length:Int))=true:=decide_eq_true c9;clear c9;obtain⟨y134,hy134⟩:∃ y_:List (S80),y_=(x3_1.set (x4_1:Int).toNat (⟨t130,t131⟩:S80)):=⟨_,rfl⟩;replace H:(laws_toLaneS.l0 k1 l0 y134 (wrap64 (x4_1+1)))=some r:=(by first|(rw [hy134];with_reducible exact H)|(have H2_:=(Option.bind_some _ _).symm.trans H;rw [hy134];with_reducible exact H2_)|(have H2_:=(Option.bind_some _ _).symm.trans H;with_reducible exact H2_)|with_reducible exact H|(rw [hy134];exact H)|exact H);have Ny134:=am_ hy134;clear hy134;have H':=am_ H;clear H;have p129:0≤(x4_1:Int):=od_;have q129:x4_1 < (l0.length:Int):=od_;obtain⟨ad129,A129_1,c129_1,e129,hx129_0,hx129_1,hl129_1,hi129_1⟩:=at_T133 HR0.out x4_1 p129 q129;cases e129;replace hx129_0:=hb_ HB hx129_0;replace hx129_1:=hb_ HB hx129_1;have HR129_1:=am_ hi129_1;have HC129_1:=am_ hl129_1;clear hi129_1 hl129_1;replace p129:=eq_true p129;replace q129:=eq_true q129;go_wp2_with (first|((with_reducible refine gc_ 117 rfl ?_);refine gk_ 20 Try.func117 (laws_toLane.calls k1 ((rd_T133 l0 x4_1).f0) _ _ ((rd_T133 l0 x4_1).f1) t130 t131 _ ?side1 ?side2 A8.out) ?_;(case side1=>repeat (first|exact(Kd.C_below HR129_1.out HB.out)|(with_reducible refine Kd.C_alloc ?_ _)|(with_reducible refine Kd.C_drewN ?_ _)|(with_reducible refine Kd.C_drew ?_)));(case side2=>exact HC129_1.out);rintro e w11 ⟨v132,rfl,ho0,hb⟩;refine⟨_,rfl,?_⟩;replace HO_3:=am_ (Kd.S_elder' (by(with_reducible repeat (first|apply Kd.S_alloc|apply Kd.S_drewN|apply Kd.S_drew));exact HO_3.out) (Kd.R_base ho0) hb);have HO133:=am_ (Kd.R_lower ho0 (below_size (be_ HB)));replace HB:=am_ (below_step (be_ HB) hb);clear hb ho0;have p10:0≤(x4_1:Int):=od_;have q10:(x4_1:Int) < ((x3_1.length:Int):Int):=od_;obtain⟨go10,co10,eo10,gb10,gl10,cl10,HG10⟩:=Kd.S_form HO_3.out (by omega);(first|cases eo10|(injection eo10 with ea_ en_ ec_;(first|subst ea_|(injection ea_ with ea_;subst ea_));subst ec_;clear en_));have GB10:=am_ gb10;have GG10:=am_ HG10;clear gb10 gl10 HG10;obtain⟨_,ce10,hcl10,hM10,hcc10,hfr10,_,_⟩:=Kd.S_elem HO_3.out z80 (x4_1:Int) p10 q10;obtain⟨ve10_1,rfl,ge10_1⟩:=k80_openM hM10;have hx10_0:w11.cell? ⟨go10,(x4_1:Int).toNat * 2,none⟩=some (.int .i64 ((rd_T80 x3_1 x4_1).f0)):=hcc10 0 _ rfl;have hx10_1:w11.cell? ⟨go10,(x4_1:Int).toNat * 2+1,none⟩=some (ve10_1):=hcc10 1 _ rfl;have hf10_0:w11.frozen? ⟨go10,(x4_1:Int).toNat * 2,none⟩=false:=hfr10 0;have hf10_1:w11.frozen? ⟨go10,(x4_1:Int).toNat * 2+1,none⟩=false:=hfr10 1;clear hcl10 hcc10 hfr10 hM10;replace p10:=eq_true p10;replace q10:=eq_true q10;obtain⟨Ao12,co12,eo12⟩:=Kd.R_slice HO133.out;subst eo12;have n_:=am_ (Kd.S_mono (ok':=(fun k_=>some k_≠(.slice Ao12 t131.length co12:Value).ownBlock)) HO_3.out (fun k_ hk=>by first|exact hk.2|grind));clear HO_3;have HO_3:=n_;clear n_;have HX13:=am_ (show Kd.S k80 80 w11 w.heap.size (fun k_=>((fun _=>True)) k_∧¬ ((fun k_=>some k_=(.slice Ao12 t131.length co12:Value).ownBlock)) k_) (.slice (some ⟨go10,0,none⟩) x3_1.length co10) x3_1 from(by(with_reducible repeat (first|apply Kd.S_alloc|apply Kd.S_drewN|apply Kd.S_drew));exact Kd.S_mono HO_3.out (fun k_ hk=>by first|exact⟨trivial,fun e_=>hk e_⟩|grind)));obtain⟨oki13,ce13,hcl13,hM13,hcc13,hfr13,hoki13,hH13⟩:=Kd.S_elem HX13.out z80 (x4_1:Int) (od_) (by have h_:(x4_1:Int) < ((x3_1.length:Int):Int):=od_;first|exact h_|(have e_:=(Kd.S_reads' HO_3.out).1;omega)|simpa using h_);obtain⟨ve13_1,rfl,ge13_1⟩:=k80_openM hM13;have HP13:=Kd.S_seg hH13 (od_) (by have h_:(x4_1:Int) < ((x3_1.length:Int):Int):=od_;first|exact h_|(have e_:=(Kd.S_reads' HO_3.out).1;omega)|simpa using h_) (seg:=[.int .i64 t130,.slice Ao12 t131.length co12]) (j:=0) (show 2≤2 from by decide) (x':=(⟨t130,t131⟩:S80)) (k80_mkM _ _ _ (⟨t130,t131⟩:S80) (Kd.R_mono (Kd.R_tight rfl (Kd.R_mono (ok':=fun k_=>((fun _=>True)) k_∧k_≠go10) (Kd.R_apart' (HO133.out) (Kd.S_typed HO_3.out) (by decide)) (fun k_ hk=>by first|exact⟨trivial,fun e_=>(hk.2) (by rw [e_];rfl)⟩|grind))) (fun _ h_=>Or.inr (h_)))) (fun _ hk=>by first|exact hk|grind) (fun k_ hk_=>((Kd.R_mono (ok':=fun k_=>((fun _=>True)) k_∧k_≠go10) (Kd.R_apart' (HO133.out) (Kd.S_typed HO_3.out) (by decide)) (fun k_ hk=>by first|exact⟨trivial,fun e_=>(hk.2) (by rw [e_];rfl)⟩|grind))).1 k_ hk_.symm);have hx13_0:=hcc13 0 _ rfl;(try simp only [show (k80).sz=2 from rfl,Nat.mul_one,Nat.add_zero]at hx13_0);have hf13_0:=hfr13 0;(try simp only [show (k80).sz=2 from rfl,Nat.mul_one,Nat.add_zero]at hf13_0);have hx13_1:=hcc13 1 _ rfl;(try simp only [show (k80).sz=2 from rfl,Nat.mul_one,Nat.add_zero]at hx13_1);have hf13_1:=hfr13 1;(try simp only [show (k80).sz=2 from rfl,Nat.mul_one,Nat.add_zero]at hf13_1);clear hcl13 hcc13 hfr13 hM13 hoki13 hH13)|((with_reducible refine gate_store (t:=80) (p:=21) rfl ?_);refine store_event (t:=80) (p:=21) (v:=?vo_w14) (w1:=((w11.setCell ⟨go10,(x4_1:Int).toNat * 2,none⟩ (.int .i64 t130)).setCell ⟨go10,(x4_1:Int).toNat * 2+1,none⟩ (.slice Ao12 t131.length co12))) ?hg ?ho ?hn ?hr ?_;(case ho=>rfl);(case hg=>rfl);(case hn=>rfl);(case hr=>first|(go_simp;done)|(go_simp;rfl));intro w14 hw;have hg:w11.grownBy w14 (some go10):=(by rw [hw];exact HP13.2);have hp_:Kd.S k80 80 w14 w.heap.size (fun _=>True) (.slice (some ⟨go10,0,none⟩) x3_1.length co10) y134:=(by rw [hw,Ny134.out];exact HP13.1);clear HP13;replace HO_3:=am_ (hp_);replace HB:=am_ ((by rw [hw];exact below_set (below_set (HB.out) GB10.out) GB10.out:Below w.heap.size w w14));clear HO133 hg hw hp_))
        go_roundg k1
        case measure=>have:=HK1.out;omega
        case rel=>exact⟨(y134),(wrap64 (x4_1+1)),re_,H',⟨by have:=HK1.out;omega⟩,⟨by(with_reducible repeat (first|apply Kd.S_alloc|apply Kd.S_drewN|apply Kd.S_drew));exact HO_3.out⟩,⟨be_ HB⟩⟩
       ·rw [if_neg c9]at H;exact absurd H (by simp)
      ·rw [if_neg c7]at H;exact absurd H (by simp)
     ·rw [if_neg c6]at H;have c6b0:decide (x4_1 < (l0.length:Int))=false:=decide_eq_false c6;clear c6;obtain rfl:=Option.some.inj H;go_wp2;go_ret;exact⟨_,er_,by(with_reducible repeat (first|apply Kd.S_alloc|apply Kd.S_drewN|apply Kd.S_drew));exact HO_3.out,be_ HB⟩
  ·rw [if_neg c3]at H;exact absurd H (by simp)
 ·rw [if_neg c2]at H;exact absurd H (by simp)

/-! ### laws_toBuf: function 26 -/
def laws_toBuf.f (k:Nat) (a0_0:Int) (a0_1:Int) (a0_2:Int) (a0_3:Int) (a0_4:Bool) (l0_5:List (S133)):Option (Int × Int × Int × Int × Bool × (List (S80))):=(laws_toLimits.f a0_0 a0_1 a0_2 a0_3 a0_4).bind fun bt138=>((laws_toLaneS.f k l0_5).bind fun t143=>(some (bt138.1,bt138.2.1,bt138.2.2.1,bt138.2.2.2.1,bt138.2.2.2.2,t143)))
theorem laws_toBuf.mono:∀ a0 a1 a2 a3 a4 a5 k,LeO (laws_toBuf.f k a0 a1 a2 a3 a4 a5) (laws_toBuf.f (k+1) a0 a1 a2 a3 a4 a5):=by
 intro a0 a1 a2 a3 a4 a5 k;unfold laws_toBuf.f
 repeat' (first|(with_reducible exact laws_toLaneS.mono _ _)|(with_reducible exact LeO.refl _)|(with_reducible exact LeO.none _)|(with_reducible refine LeO.ite ?_ ?_)|(with_reducible refine LeO.bind ?_ (fun _=>?_))|exact laws_toLaneS.mono _ _|exact LeO.none _|refine LeO.ite ?_ ?_|refine LeO.bind ?_ (fun _=>?_))
set_option maxHeartbeats 80000000 in
set_option maxRecDepth 100000 in
theorem laws_toBuf.calls (k:Nat) (a0_0:Int) (a0_1:Int) (a0_2:Int) (a0_3:Int) (a0_4:Bool) (A0_5:Option Addr) (c0_5:Nat) (l0_5:List (S133)) (r1:Int) (r2:Int) (r3:Int) (r4:Int) (r5:Bool) (r6:List (S80)) (w:World) (hr0_5:Kd.C k133 w A0_5 l0_5.length l0_5) (hc0_5:l0_5.length≤c0_5) (h:laws_toBuf.f k a0_0 a0_1 a0_2 a0_3 a0_4 l0_5=some (r1,r2,r3,r4,r5,r6)) :
  Calls Try.prog 26 #[.agg #[.int .i64 a0_0,.int .i64 a0_1,.int .i64 a0_2,.int .i64 a0_3,.bool a0_4,.slice A0_5 l0_5.length c0_5]] w fun e w'=>∃ v5_:Value,e=.returned (.agg #[.int .i64 r1,.int .i64 r2,.int .i64 r3,.int .i64 r4,.bool r5,v5_])∧Kd.S k80 80 w' w.heap.size (fun _=>True) v5_ r6∧Below w.heap.size w w':=by
 have hu40:=Try.underlying40;have hu47:=Try.underlying47;have hu37:=Try.underlying37;have hu44:=Try.underlying44;have HR0_5:=am_ hr0_5;have HC0_5:=am_ hc0_5;clear hr0_5 hc0_5;have HB:=am_ (Below.refl w.heap.size w);have H:=h;clear h;unfold laws_toBuf.f at H;replace H:=bm1_ H;obtain⟨⟨t138,t139,t140,t141,t142⟩,A2,H⟩:=H;replace H:=bm1_ H;obtain⟨t143,A3,H⟩:=H;simp only [Option.some.injEq,Prod.mk.injEq]at H;obtain⟨rfl,rfl,rfl,rfl,rfl,rfl⟩:=H
 go_enter Try.func26,Try.ntmps26
 go_wp2_with (first|((with_reducible refine gd_ 1 rfl ?_);refine bv_ 1 #[.int .i64 a0_0,.int .i64 a0_1,.int .i64 a0_2,.int .i64 a0_3,.bool a0_4,.slice A0_5 l0_5.length c0_5] 40 ?_;intro gb135 hg w4 hbox hb;have B135:=am_ (hbox);have GW135:=gw_ HB hg;have GE135:=gw_ HB hg;replace HB:=am_ (below_step (be_ HB) hb);clear hb hbox hg)|((with_reducible refine gd_ 2 rfl ?_);refine bv_ 2 #[.int .i64 0,.int .i64 0,.int .i64 0,.int .i64 0,.bool false,.slice none 0 0] 47 ?_;intro gb136 hg w5 hbox hb;have B136:=am_ (hbox);have GW136:=gw_ HB hg;have GE136:=gw_ HB hg;replace HB:=sb_ HB hb;have D135_136:=nl_ B135 hg;have D136_135:=ng_ B135 hg;replace B135:=bb_ B135 hb;clear hb hbox hg)|((with_reducible refine gd_ 3 rfl ?_);refine bv_ 3 #[.int .i64 0,.int .i64 0,.int .i64 0,.int .i64 0,.bool false,.slice none 0 0] 47 ?_;intro gb137 hg w6 hbox hb;have B137:=am_ (hbox);have GW137:=gw_ HB hg;have GE137:=gw_ HB hg;replace HB:=sb_ HB hb;have D135_137:=nl_ B135 hg;have D137_135:=ng_ B135 hg;replace B135:=bb_ B135 hb;have D136_137:=nl_ B136 hg;have D137_136:=ng_ B136 hg;replace B136:=bb_ B136 hb;clear hb hbox hg;obtain⟨hnb7,hnc7⟩:=nn_ D135_136;obtain⟨hnb8,hnc8⟩:=nn_ D135_137;obtain⟨Z9_0,Z9_1,Z9_2,Z9_3,Z9_4,Z9_5,F9_0,F9_1,F9_2,F9_3,F9_4,F9_5⟩:=bz6_ B135)|((with_reducible refine gc_ 78 rfl ?_);refine gk_ 6 Try.func78 (laws_toLimits.calls a0_0 a0_1 a0_2 a0_3 a0_4 t138 t139 t140 t141 t142 _ A2.out) ?_;rintro e w10 ⟨rfl,hb⟩;refine⟨_,rfl,?_⟩;replace B135:=bb_ B135 hb;replace B136:=bb_ B136 hb;replace B137:=bb_ B137 hb;replace HB:=sb_ HB hb;clear hb;obtain⟨hnb11,hnc11⟩:=nn_ D137_136;obtain⟨Z12_0,Z12_1,Z12_2,Z12_3,Z12_4,Z12_5,F12_0,F12_1,F12_2,F12_3,F12_4,F12_5⟩:=bz6_ B137;obtain⟨Z13_0,Z13_1,Z13_2,Z13_3,Z13_4,Z13_5,F13_0,F13_1,F13_2,F13_3,F13_4,F13_5⟩:=bz6_ B135)|((with_reducible refine gc_ 79 rfl ?_);refine gk_ 10 Try.func79 (laws_toLaneS.calls k _ _ l0_5 t143 _ ?side1 ?side2 A3.out) ?_;(case side1=>exact Kd.C_below HR0_5.out (bf_ HB));(case side2=>exact HC0_5.out);rintro e w14 ⟨v144,rfl,ho0,hb⟩;refine⟨_,rfl,?_⟩;have HO145:=am_ (Kd.S_lower ho0 (below_size (bf_ HB)));replace B135:=bm_ B135 hb;replace B136:=bm_ B136 hb;replace B137:=am_ (blk_below (g:=gb137) (o:=.cells #[.int .i64 t138,.int .i64 t139,.int .i64 t140,.int .i64 t141,.bool t142,.slice none 0 0] 47 (0,0)) (bq_ B137) hb);replace HB:=sb_ HB hb;clear hb ho0;obtain⟨Ao15,co15,eo15⟩:=Kd.S_slice HO145.out;subst eo15;obtain⟨Z16_0,Z16_1,Z16_2,Z16_3,Z16_4,Z16_5,F16_0,F16_1,F16_2,F16_3,F16_4,F16_5⟩:=bz6_ B137;obtain⟨Z17_0,Z17_1,Z17_2,Z17_3,Z17_4,Z17_5,F17_0,F17_1,F17_2,F17_3,F17_4,F17_5⟩:=bz6_ B136));refine bodyPost_ret (results_cell_row rfl _ _ gb136 47 #[.int .i64 t138,.int .i64 t139,.int .i64 t140,.int .i64 t141,.bool t142,.slice Ao15 t143.length co15] (0,0) _ rfl (bq_ B136) Try.underlying47 rfl (by kernel_rfl)) rfl ?_;exact⟨_,er_,by(with_reducible repeat (first|apply Kd.S_alloc|apply Kd.S_drewN|apply Kd.S_drew));exact Kd.S_mono (rs6_ (Kd.S_far (p:=⟨gb137,5,none⟩) (Kd.S_types (Kd.S_types HO145.out B137.out (by decide)) B136.out (by decide)) (fun _ hk=>by first|exact hk.1.2|grind) (.slice Ao15 t143.length co15)) (fun _ hk=>by first|exact hk.2|grind)) (fun _ hk=>by first|exact trivial|grind),bf_ HB⟩

/-! ### laws_eqLimits: function 89 -/
def laws_eqLimits.f (a0_0:Int) (a0_1:Int) (a0_2:Int) (a0_3:Int) (a0_4:Bool) (a1_0:Int) (a1_1:Int) (a1_2:Int) (a1_3:Int) (a1_4:Bool):Option (Bool):=if a0_0=a1_0 then(if a0_1=a1_1 then(if a0_2=a1_2 then(if a0_3=a1_3 then(if (a0_4 != a1_4)=true then(some false) else(some true)) else(some false)) else(some false)) else(some false)) else(some false)
set_option maxHeartbeats 80000000 in
set_option maxRecDepth 100000 in
theorem laws_eqLimits.calls (a0_0:Int) (a0_1:Int) (a0_2:Int) (a0_3:Int) (a0_4:Bool) (a1_0:Int) (a1_1:Int) (a1_2:Int) (a1_3:Int) (a1_4:Bool) (r:Bool) (w:World) (h:laws_eqLimits.f a0_0 a0_1 a0_2 a0_3 a0_4 a1_0 a1_1 a1_2 a1_3 a1_4=some r) :
  Calls Try.prog 89 #[.agg #[.int .i64 a0_0,.int .i64 a0_1,.int .i64 a0_2,.int .i64 a0_3,.bool a0_4],.agg #[.int .i64 a1_0,.int .i64 a1_1,.int .i64 a1_2,.int .i64 a1_3,.bool a1_4]] w fun e w'=>e=.returned (.bool r)∧Below w.heap.size w w':=by
 have hu44:=Try.underlying44;have HB:=am_ (Below.refl w.heap.size w);have H:=h;clear h;unfold laws_eqLimits.f at H
 by_cases c3:a0_0=a1_0
 ·rw [if_pos c3]at H;have c3b0:(a0_0 == a1_0)=true:=beq_iff_eq.mpr c3;have c3b1:(a0_0 != a1_0)=false:=bne_eq_false_iff_eq.mpr c3;clear c3
  by_cases c4:a0_1=a1_1
  ·rw [if_pos c4]at H;have c4b0:(a0_1 == a1_1)=true:=beq_iff_eq.mpr c4;have c4b1:(a0_1 != a1_1)=false:=bne_eq_false_iff_eq.mpr c4;clear c4
   by_cases c5:a0_2=a1_2
   ·rw [if_pos c5]at H;have c5b0:(a0_2 == a1_2)=true:=beq_iff_eq.mpr c5;have c5b1:(a0_2 != a1_2)=false:=bne_eq_false_iff_eq.mpr c5;clear c5
    by_cases c6:a0_3=a1_3
    ·rw [if_pos c6]at H;have c6b0:(a0_3 == a1_3)=true:=beq_iff_eq.mpr c6;have c6b1:(a0_3 != a1_3)=false:=bne_eq_false_iff_eq.mpr c6;clear c6
     by_cases c7:(a0_4 != a1_4)=true
     ·rw [if_pos c7]at H;have c7b0:(a0_4 != a1_4)=true:=c7;(try (have c7b1:decide (a0_4=a1_4)=false:=by simpa using c7));(try (have c7b2:(a0_4 == a1_4)=false:=by simpa using c7));(try (have c7b3:¬ (a0_4=a1_4):=by simpa using c7));clear c7;obtain rfl:=Option.some.inj H
      go_enter Try.func89,Try.ntmps89
      go_wp2_with (first|((with_reducible refine gd_ 2 rfl ?_);refine bv_ 2 #[.int .i64 a0_0,.int .i64 a0_1,.int .i64 a0_2,.int .i64 a0_3,.bool a0_4] 44 ?_;intro gb146 hg w8 hbox hb;have B146:=am_ (hbox);have GW146:=gw_ HB hg;have GE146:=gw_ HB hg;replace HB:=am_ (below_step (be_ HB) hb);clear hb hbox hg)|((with_reducible refine gd_ 3 rfl ?_);refine bv_ 3 #[.int .i64 a1_0,.int .i64 a1_1,.int .i64 a1_2,.int .i64 a1_3,.bool a1_4] 44 ?_;intro gb147 hg w9 hbox hb;have B147:=am_ (hbox);have GW147:=gw_ HB hg;have GE147:=gw_ HB hg;replace HB:=sb_ HB hb;have D146_147:=nl_ B146 hg;have D147_146:=ng_ B146 hg;replace B146:=bb_ B146 hb;clear hb hbox hg;obtain⟨hnb10,hnc10⟩:=nn_ D146_147;obtain⟨Z11_0,Z11_1,Z11_2,Z11_3,Z11_4,F11_0,F11_1,F11_2,F11_3,F11_4⟩:=bz5_ B146;obtain⟨Z12_0,Z12_1,Z12_2,Z12_3,Z12_4,F12_0,F12_1,F12_2,F12_3,F12_4⟩:=bz5_ B147));go_ret;exact⟨er_,bf_ HB⟩
     ·rw [if_neg c7]at H;have c7b0:(a0_4 != a1_4)=false:=(by simpa using c7);(try (have c7b1:decide (a0_4=a1_4)=true:=by simpa using c7));(try (have c7b2:(a0_4 == a1_4)=true:=by simpa using c7));clear c7;obtain rfl:=Option.some.inj H
      go_enter Try.func89,Try.ntmps89
      go_wp2_with (first|((with_reducible refine gd_ 2 rfl ?_);refine bv_ 2 #[.int .i64 a0_0,.int .i64 a0_1,.int .i64 a0_2,.int .i64 a0_3,.bool a0_4] 44 ?_;intro gb146 hg w13 hbox hb;have B146:=am_ (hbox);have GW146:=gw_ HB hg;have GE146:=gw_ HB hg;replace HB:=am_ (below_step (be_ HB) hb);clear hb hbox hg)|((with_reducible refine gd_ 3 rfl ?_);refine bv_ 3 #[.int .i64 a1_0,.int .i64 a1_1,.int .i64 a1_2,.int .i64 a1_3,.bool a1_4] 44 ?_;intro gb147 hg w14 hbox hb;have B147:=am_ (hbox);have GW147:=gw_ HB hg;have GE147:=gw_ HB hg;replace HB:=sb_ HB hb;have D146_147:=nl_ B146 hg;have D147_146:=ng_ B146 hg;replace B146:=bb_ B146 hb;clear hb hbox hg;obtain⟨hnb15,hnc15⟩:=nn_ D146_147;obtain⟨Z16_0,Z16_1,Z16_2,Z16_3,Z16_4,F16_0,F16_1,F16_2,F16_3,F16_4⟩:=bz5_ B146;obtain⟨Z17_0,Z17_1,Z17_2,Z17_3,Z17_4,F17_0,F17_1,F17_2,F17_3,F17_4⟩:=bz5_ B147));go_ret;exact⟨er_,bf_ HB⟩
    ·rw [if_neg c6]at H;have c6b0:(a0_3 == a1_3)=false:=beq_eq_false_iff_ne.mpr c6;have c6b1:(a0_3 != a1_3)=true:=bne_iff_ne.mpr c6;obtain rfl:=Option.some.inj H
     go_enter Try.func89,Try.ntmps89
     go_wp2_with (first|((with_reducible refine gd_ 2 rfl ?_);refine bv_ 2 #[.int .i64 a0_0,.int .i64 a0_1,.int .i64 a0_2,.int .i64 a0_3,.bool a0_4] 44 ?_;intro gb146 hg w18 hbox hb;have B146:=am_ (hbox);have GW146:=gw_ HB hg;have GE146:=gw_ HB hg;replace HB:=am_ (below_step (be_ HB) hb);clear hb hbox hg)|((with_reducible refine gd_ 3 rfl ?_);refine bv_ 3 #[.int .i64 a1_0,.int .i64 a1_1,.int .i64 a1_2,.int .i64 a1_3,.bool a1_4] 44 ?_;intro gb147 hg w19 hbox hb;have B147:=am_ (hbox);have GW147:=gw_ HB hg;have GE147:=gw_ HB hg;replace HB:=sb_ HB hb;have D146_147:=nl_ B146 hg;have D147_146:=ng_ B146 hg;replace B146:=bb_ B146 hb;clear hb hbox hg;obtain⟨hnb20,hnc20⟩:=nn_ D146_147;obtain⟨Z21_0,Z21_1,Z21_2,Z21_3,Z21_4,F21_0,F21_1,F21_2,F21_3,F21_4⟩:=bz5_ B146;obtain⟨Z22_0,Z22_1,Z22_2,Z22_3,Z22_4,F22_0,F22_1,F22_2,F22_3,F22_4⟩:=bz5_ B147));go_ret;exact⟨er_,bf_ HB⟩
   ·rw [if_neg c5]at H;have c5b0:(a0_2 == a1_2)=false:=beq_eq_false_iff_ne.mpr c5;have c5b1:(a0_2 != a1_2)=true:=bne_iff_ne.mpr c5;obtain rfl:=Option.some.inj H
    go_enter Try.func89,Try.ntmps89
    go_wp2_with (first|((with_reducible refine gd_ 2 rfl ?_);refine bv_ 2 #[.int .i64 a0_0,.int .i64 a0_1,.int .i64 a0_2,.int .i64 a0_3,.bool a0_4] 44 ?_;intro gb146 hg w23 hbox hb;have B146:=am_ (hbox);have GW146:=gw_ HB hg;have GE146:=gw_ HB hg;replace HB:=am_ (below_step (be_ HB) hb);clear hb hbox hg)|((with_reducible refine gd_ 3 rfl ?_);refine bv_ 3 #[.int .i64 a1_0,.int .i64 a1_1,.int .i64 a1_2,.int .i64 a1_3,.bool a1_4] 44 ?_;intro gb147 hg w24 hbox hb;have B147:=am_ (hbox);have GW147:=gw_ HB hg;have GE147:=gw_ HB hg;replace HB:=sb_ HB hb;have D146_147:=nl_ B146 hg;have D147_146:=ng_ B146 hg;replace B146:=bb_ B146 hb;clear hb hbox hg;obtain⟨hnb25,hnc25⟩:=nn_ D146_147;obtain⟨Z26_0,Z26_1,Z26_2,Z26_3,Z26_4,F26_0,F26_1,F26_2,F26_3,F26_4⟩:=bz5_ B146;obtain⟨Z27_0,Z27_1,Z27_2,Z27_3,Z27_4,F27_0,F27_1,F27_2,F27_3,F27_4⟩:=bz5_ B147));go_ret;exact⟨er_,bf_ HB⟩
  ·rw [if_neg c4]at H;have c4b0:(a0_1 == a1_1)=false:=beq_eq_false_iff_ne.mpr c4;have c4b1:(a0_1 != a1_1)=true:=bne_iff_ne.mpr c4;obtain rfl:=Option.some.inj H
   go_enter Try.func89,Try.ntmps89
   go_wp2_with (first|((with_reducible refine gd_ 2 rfl ?_);refine bv_ 2 #[.int .i64 a0_0,.int .i64 a0_1,.int .i64 a0_2,.int .i64 a0_3,.bool a0_4] 44 ?_;intro gb146 hg w28 hbox hb;have B146:=am_ (hbox);have GW146:=gw_ HB hg;have GE146:=gw_ HB hg;replace HB:=am_ (below_step (be_ HB) hb);clear hb hbox hg)|((with_reducible refine gd_ 3 rfl ?_);refine bv_ 3 #[.int .i64 a1_0,.int .i64 a1_1,.int .i64 a1_2,.int .i64 a1_3,.bool a1_4] 44 ?_;intro gb147 hg w29 hbox hb;have B147:=am_ (hbox);have GW147:=gw_ HB hg;have GE147:=gw_ HB hg;replace HB:=sb_ HB hb;have D146_147:=nl_ B146 hg;have D147_146:=ng_ B146 hg;replace B146:=bb_ B146 hb;clear hb hbox hg;obtain⟨hnb30,hnc30⟩:=nn_ D146_147;obtain⟨Z31_0,Z31_1,Z31_2,Z31_3,Z31_4,F31_0,F31_1,F31_2,F31_3,F31_4⟩:=bz5_ B146;obtain⟨Z32_0,Z32_1,Z32_2,Z32_3,Z32_4,F32_0,F32_1,F32_2,F32_3,F32_4⟩:=bz5_ B147));go_ret;exact⟨er_,bf_ HB⟩
 ·rw [if_neg c3]at H;have c3b0:(a0_0 == a1_0)=false:=beq_eq_false_iff_ne.mpr c3;have c3b1:(a0_0 != a1_0)=true:=bne_iff_ne.mpr c3;obtain rfl:=Option.some.inj H
  go_enter Try.func89,Try.ntmps89
  go_wp2_with (first|((with_reducible refine gd_ 2 rfl ?_);refine bv_ 2 #[.int .i64 a0_0,.int .i64 a0_1,.int .i64 a0_2,.int .i64 a0_3,.bool a0_4] 44 ?_;intro gb146 hg w33 hbox hb;have B146:=am_ (hbox);have GW146:=gw_ HB hg;have GE146:=gw_ HB hg;replace HB:=am_ (below_step (be_ HB) hb);clear hb hbox hg)|((with_reducible refine gd_ 3 rfl ?_);refine bv_ 3 #[.int .i64 a1_0,.int .i64 a1_1,.int .i64 a1_2,.int .i64 a1_3,.bool a1_4] 44 ?_;intro gb147 hg w34 hbox hb;have B147:=am_ (hbox);have GW147:=gw_ HB hg;have GE147:=gw_ HB hg;replace HB:=sb_ HB hb;have D146_147:=nl_ B146 hg;have D147_146:=ng_ B146 hg;replace B146:=bb_ B146 hb;clear hb hbox hg;obtain⟨hnb35,hnc35⟩:=nn_ D146_147;obtain⟨Z36_0,Z36_1,Z36_2,Z36_3,Z36_4,F36_0,F36_1,F36_2,F36_3,F36_4⟩:=bz5_ B146;obtain⟨Z37_0,Z37_1,Z37_2,Z37_3,Z37_4,F37_0,F37_1,F37_2,F37_3,F37_4⟩:=bz5_ B147));go_ret;exact⟨er_,bf_ HB⟩

/-! ### laws_eqHeld: function 60 -/
def laws_eqHeld.f (a0_0:Int) (a0_1:Int) (a1_0:Int) (a1_1:Int):Option (Bool):=if a0_0=a1_0 then(if a0_1=a1_1 then(some true) else(some false)) else(some false)
set_option maxHeartbeats 80000000 in
set_option maxRecDepth 100000 in
theorem laws_eqHeld.calls (a0_0:Int) (a0_1:Int) (a1_0:Int) (a1_1:Int) (r:Bool) (w:World) (h:laws_eqHeld.f a0_0 a0_1 a1_0 a1_1=some r) :
  Calls Try.prog 60 #[.agg #[.int .i64 a0_0,.int .i64 a0_1],.agg #[.int .i64 a1_0,.int .i64 a1_1]] w fun e w'=>e=.returned (.bool r)∧Below w.heap.size w w':=by
 have hu52:=Try.underlying52;have HB:=am_ (Below.refl w.heap.size w);have H:=h;clear h;unfold laws_eqHeld.f at H
 by_cases c3:a0_0=a1_0
 ·rw [if_pos c3]at H;have c3b0:(a0_0 == a1_0)=true:=beq_iff_eq.mpr c3;have c3b1:(a0_0 != a1_0)=false:=bne_eq_false_iff_eq.mpr c3;clear c3
  by_cases c4:a0_1=a1_1
  ·rw [if_pos c4]at H;have c4b0:(a0_1 == a1_1)=true:=beq_iff_eq.mpr c4;have c4b1:(a0_1 != a1_1)=false:=bne_eq_false_iff_eq.mpr c4;clear c4;obtain rfl:=Option.some.inj H
   go_enter Try.func60,Try.ntmps60
   go_wp2_with (first|((with_reducible refine gd_ 2 rfl ?_);refine bv_ 2 #[.int .i64 a0_0,.int .i64 a0_1] 52 ?_;intro gb148 hg w5 hbox hb;have B148:=am_ (hbox);have GW148:=gw_ HB hg;have GE148:=gw_ HB hg;replace HB:=am_ (below_step (be_ HB) hb);clear hb hbox hg)|((with_reducible refine gd_ 3 rfl ?_);refine bv_ 3 #[.int .i64 a1_0,.int .i64 a1_1] 52 ?_;intro gb149 hg w6 hbox hb;have B149:=am_ (hbox);have GW149:=gw_ HB hg;have GE149:=gw_ HB hg;replace HB:=sb_ HB hb;have D148_149:=nl_ B148 hg;have D149_148:=ng_ B148 hg;replace B148:=bb_ B148 hb;clear hb hbox hg;obtain⟨hnb7,hnc7⟩:=nn_ D148_149;obtain⟨Z8_0,Z8_1,F8_0,F8_1⟩:=bz2_ B148;obtain⟨Z9_0,Z9_1,F9_0,F9_1⟩:=bz2_ B149));go_ret;exact⟨er_,bf_ HB⟩
  ·rw [if_neg c4]at H;have c4b0:(a0_1 == a1_1)=false:=beq_eq_false_iff_ne.mpr c4;have c4b1:(a0_1 != a1_1)=true:=bne_iff_ne.mpr c4;obtain rfl:=Option.some.inj H
   go_enter Try.func60,Try.ntmps60
   go_wp2_with (first|((with_reducible refine gd_ 2 rfl ?_);refine bv_ 2 #[.int .i64 a0_0,.int .i64 a0_1] 52 ?_;intro gb148 hg w10 hbox hb;have B148:=am_ (hbox);have GW148:=gw_ HB hg;have GE148:=gw_ HB hg;replace HB:=am_ (below_step (be_ HB) hb);clear hb hbox hg)|((with_reducible refine gd_ 3 rfl ?_);refine bv_ 3 #[.int .i64 a1_0,.int .i64 a1_1] 52 ?_;intro gb149 hg w11 hbox hb;have B149:=am_ (hbox);have GW149:=gw_ HB hg;have GE149:=gw_ HB hg;replace HB:=sb_ HB hb;have D148_149:=nl_ B148 hg;have D149_148:=ng_ B148 hg;replace B148:=bb_ B148 hb;clear hb hbox hg;obtain⟨hnb12,hnc12⟩:=nn_ D148_149;obtain⟨Z13_0,Z13_1,F13_0,F13_1⟩:=bz2_ B148;obtain⟨Z14_0,Z14_1,F14_0,F14_1⟩:=bz2_ B149));go_ret;exact⟨er_,bf_ HB⟩
 ·rw [if_neg c3]at H;have c3b0:(a0_0 == a1_0)=false:=beq_eq_false_iff_ne.mpr c3;have c3b1:(a0_0 != a1_0)=true:=bne_iff_ne.mpr c3;obtain rfl:=Option.some.inj H
  go_enter Try.func60,Try.ntmps60
  go_wp2_with (first|((with_reducible refine gd_ 2 rfl ?_);refine bv_ 2 #[.int .i64 a0_0,.int .i64 a0_1] 52 ?_;intro gb148 hg w15 hbox hb;have B148:=am_ (hbox);have GW148:=gw_ HB hg;have GE148:=gw_ HB hg;replace HB:=am_ (below_step (be_ HB) hb);clear hb hbox hg)|((with_reducible refine gd_ 3 rfl ?_);refine bv_ 3 #[.int .i64 a1_0,.int .i64 a1_1] 52 ?_;intro gb149 hg w16 hbox hb;have B149:=am_ (hbox);have GW149:=gw_ HB hg;have GE149:=gw_ HB hg;replace HB:=sb_ HB hb;have D148_149:=nl_ B148 hg;have D149_148:=ng_ B148 hg;replace B148:=bb_ B148 hb;clear hb hbox hg;obtain⟨hnb17,hnc17⟩:=nn_ D148_149;obtain⟨Z18_0,Z18_1,F18_0,F18_1⟩:=bz2_ B148;obtain⟨Z19_0,Z19_1,F19_0,F19_1⟩:=bz2_ B149));go_ret;exact⟨er_,bf_ HB⟩

end Go.Proofs.Ytnklakficjpmoaa.PFnExactBufClear
