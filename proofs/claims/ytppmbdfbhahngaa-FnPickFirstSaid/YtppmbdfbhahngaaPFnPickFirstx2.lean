-- printed by a program of this session (wip/printx) out of the translation; Lean checks it
import Derived.Test.YtppmbdfbhahngaaVFnPickFirst
import Derived.Test.YtppmbdfbhahngaaPFnPickFirstx0
namespace Go.Proofs.Ytppmbdfbhahngaa.PFnPickFirst
open Go.RowKit Go.Proofs.YtppmbdfbhahngaaW.PrintWords Go.Proofs.YtppmbdfbhahngaaW.PrintLast Go.Proofs.YtppmbdfbhahngaaW.PrintMore
attribute [local go_sem] max2_int min2_int max_two min_two max_three min_three max_four min_four   -- for this text's walks alone
set_option linter.unusedVariables false
set_option linter.unusedSimpArgs false

/-! ### laws_big: function 16 -/
def laws_big.f (l0:List Int):Option (Bool):=some (decide ((l0.length:Int) > 1048576))
set_option maxHeartbeats 8000000 in
set_option maxRecDepth 100000 in
theorem laws_big.calls (A0:Option Addr) (c0:Nat) (l0:List Int) (r:Bool) (w:World) (hr0:Kd.C (Kd.int .u8) w A0 l0.length l0) (hc0:l0.length≤c0) (h:laws_big.f l0=some r) :
  Calls Try.prog 16 #[.slice A0 l0.length c0] w fun e w'=>e=.returned (.bool r)∧Drawn0 w w':=by
 have HR0:=am_ hr0;have HC0:=am_ hc0;clear hr0 hc0;have H:=h;clear h;unfold laws_big.f at H;obtain rfl:=Option.some.inj H
 go_enter Try.func16,Try.ntmps16
 go_wp2;go_ret;exact⟨by first|rfl|(simp;done)|(simp [*];done),by repeat (first|exact Drawn0.refl _|apply Drawn0.step)⟩

/-! ### impl_VecTop: function 52 -/
def impl_VecTop.f (a0_0:Int) (a0_1:Int) (a0_2:Int):Option (Int):=some (mx (mx a0_0 a0_1) a0_2)
set_option maxHeartbeats 8000000 in
set_option maxRecDepth 100000 in
theorem impl_VecTop.calls (a0_0:Int) (a0_1:Int) (a0_2:Int) (r:Int) (w:World) (h:impl_VecTop.f a0_0 a0_1 a0_2=some r) :
  Calls Try.prog 52 #[.agg #[.int .i64 a0_0,.int .i64 a0_1,.int .i64 a0_2]] w fun e w'=>e=.returned (.int .i64 r)∧Below w.heap.size w w':=by
 have hu28:=Try.underlying28;have HB:=am_ (Below.refl w.heap.size w);have H:=h;clear h;unfold impl_VecTop.f at H;obtain⟨ji2,hji2⟩:∃ j_:Int,(mx a0_0 a0_1)=j_:=⟨_,rfl⟩;replace H:(some (mx (ji2) a0_2))=some r:=(by first|(rw [hji2]at H;exact H)|(simp only [hji2]at H ⊢;exact H));have hji2_:(if a0_0 < a0_1 then a0_1 else a0_0)=ji2:=hji2;obtain⟨ji3,hji3⟩:∃ j_:Int,(mx (ji2) a0_2)=j_:=⟨_,rfl⟩;replace H:(some ji3)=some r:=(by first|(rw [hji3]at H;exact H)|(simp only [hji3]at H ⊢;exact H));have hji3_:(if (ji2) < a0_2 then a0_2 else(ji2))=ji3:=hji3;obtain rfl:=Option.some.inj H
 go_enter Try.func52,Try.ntmps52
 go_wp2_with (first|((with_reducible refine gd_ 1 rfl ?_);refine bv_ 1 #[.int .i64 a0_0,.int .i64 a0_1,.int .i64 a0_2] 28 ?_;intro gb101 hg w4 hbox hb;have B101:=am_ (hbox);have GW101:=gw_ HB hg;have GE101:=gw_ HB hg;replace HB:=am_ (below_step (be_ HB) hb);clear hb hbox hg;obtain⟨Z5_0,Z5_1,Z5_2,F5_0,F5_1,F5_2⟩:=bz3_ B101));go_ret;exact⟨by first|rfl|(simp [errW_none,errW_some]<;>rfl)|(simp only [← hji2,← hji3];first|rfl|(simp [errW_none,errW_some]<;>rfl))|(simp [*,errW_none,errW_some]<;>rfl),bf_ HB⟩

/-! ### impl_within: function 71 -/
def impl_within.f (a0:Int) (a1:Int) (a2:Int):Option (Bool):=if a0 ≥ a1 then(some (decide (a0≤a2))) else(some false)
set_option maxHeartbeats 8000000 in
set_option maxRecDepth 100000 in
theorem impl_within.calls (a0:Int) (a1:Int) (a2:Int) (r:Bool) (w:World) (h:impl_within.f a0 a1 a2=some r) :
  Calls Try.prog 71 #[.int .i64 a0,.int .i64 a1,.int .i64 a2] w fun e w'=>e=.returned (.bool r)∧Drawn0 w w':=by
 have H:=h;clear h;unfold impl_within.f at H
 by_cases c4:a0 ≥ a1
 ·rw [if_pos c4]at H;have c4b0:decide (a1≤a0)=true:=decide_eq_true c4;clear c4;obtain rfl:=Option.some.inj H
  go_enter Try.func71,Try.ntmps71
  go_wp2;go_ret;exact⟨by first|rfl|(simp;done)|(simp [*];done),by repeat (first|exact Drawn0.refl _|apply Drawn0.step)⟩
 ·rw [if_neg c4]at H;have c4b0:decide (a1≤a0)=false:=decide_eq_false c4;clear c4;obtain rfl:=Option.some.inj H
  go_enter Try.func71,Try.ntmps71
  go_wp2;go_ret;exact⟨by first|rfl|(simp;done)|(simp [*];done),by repeat (first|exact Drawn0.refl _|apply Drawn0.step)⟩

/-! ### impl_Vec_isFrom: function 82 -/
def impl_Vec_isFrom.f (a0_0:Int) (a0_1:Int) (a0_2:Int) (a1:Int) (a2:Int):Option (Bool):=(impl_within.f a0_0 a1 a2).bind fun t103=>(if t103=true then((impl_within.f a0_1 a1 a2).bind fun t104=>(if t104=true then((impl_within.f a0_2 a1 a2).bind fun t105=>(some t105)) else(some false))) else(some false))
set_option maxHeartbeats 8000000 in
set_option maxRecDepth 100000 in
theorem impl_Vec_isFrom.calls (a0_0:Int) (a0_1:Int) (a0_2:Int) (a1:Int) (a2:Int) (r:Bool) (w:World) (h:impl_Vec_isFrom.f a0_0 a0_1 a0_2 a1 a2=some r) :
  Calls Try.prog 82 #[.agg #[.int .i64 a0_0,.int .i64 a0_1,.int .i64 a0_2],.int .i64 a1,.int .i64 a2] w fun e w'=>e=.returned (.bool r)∧Below w.heap.size w w':=by
 have hu28:=Try.underlying28;have HB:=am_ (Below.refl w.heap.size w);have H:=h;clear h;unfold impl_Vec_isFrom.f at H;replace H:=bm1_ H;obtain⟨t103,A4,H⟩:=H
 by_cases c5:t103=true
 ·subst c5;rw [if_pos rfl]at H;replace H:=bm1_ H;obtain⟨t104,A6,H⟩:=H
  by_cases c7:t104=true
  ·subst c7;rw [if_pos rfl]at H;replace H:=bm1_ H;obtain⟨t105,A8,H⟩:=H;obtain rfl:=Option.some.inj H
   go_enter Try.func82,Try.ntmps82
   go_wp2_with (first|((with_reducible refine gd_ 3 rfl ?_);refine bv_ 3 #[.int .i64 a0_0,.int .i64 a0_1,.int .i64 a0_2] 28 ?_;intro gb102 hg w9 hbox hb;have B102:=am_ (hbox);have GW102:=gw_ HB hg;have GE102:=gw_ HB hg;replace HB:=am_ (below_step (be_ HB) hb);clear hb hbox hg;obtain⟨Z10_0,Z10_1,Z10_2,F10_0,F10_1,F10_2⟩:=bz3_ B102)|((with_reducible refine gc_ 71 rfl ?_);refine gk_ 11 Try.func71 (impl_within.calls a0_0 a1 a2 true _ A4.out) ?_;rintro e w' ⟨rfl,⟨nd,rfl⟩⟩;refine⟨_,rfl,?_⟩)|(go_at_call 71;(with_reducible refine(impl_within.calls a0_1 a1 a2 true _ A6.out).mono ?_);rintro e w' ⟨rfl,⟨nd,rfl⟩⟩)|(go_at_call 71;(with_reducible refine(impl_within.calls a0_2 a1 a2 t105 _ A8.out).mono ?_);rintro e w' ⟨rfl,⟨nd,rfl⟩⟩));go_ret;exact⟨er_,bf_ HB⟩
  ·replace c7:=Bool.eq_false_iff.mpr c7;subst c7;rw [if_neg (show ¬ (false=true) by decide)]at H;obtain rfl:=Option.some.inj H
   go_enter Try.func82,Try.ntmps82
   go_wp2_with (first|((with_reducible refine gd_ 3 rfl ?_);refine bv_ 3 #[.int .i64 a0_0,.int .i64 a0_1,.int .i64 a0_2] 28 ?_;intro gb102 hg w11 hbox hb;have B102:=am_ (hbox);have GW102:=gw_ HB hg;have GE102:=gw_ HB hg;replace HB:=am_ (below_step (be_ HB) hb);clear hb hbox hg;obtain⟨Z12_0,Z12_1,Z12_2,F12_0,F12_1,F12_2⟩:=bz3_ B102)|((with_reducible refine gc_ 71 rfl ?_);refine gk_ 11 Try.func71 (impl_within.calls a0_0 a1 a2 true _ A4.out) ?_;rintro e w' ⟨rfl,⟨nd,rfl⟩⟩;refine⟨_,rfl,?_⟩)|(go_at_call 71;(with_reducible refine(impl_within.calls a0_1 a1 a2 false _ A6.out).mono ?_);rintro e w' ⟨rfl,⟨nd,rfl⟩⟩));go_ret;exact⟨er_,bf_ HB⟩
 ·replace c5:=Bool.eq_false_iff.mpr c5;subst c5;rw [if_neg (show ¬ (false=true) by decide)]at H;obtain rfl:=Option.some.inj H
  go_enter Try.func82,Try.ntmps82
  go_wp2_with (first|((with_reducible refine gd_ 3 rfl ?_);refine bv_ 3 #[.int .i64 a0_0,.int .i64 a0_1,.int .i64 a0_2] 28 ?_;intro gb102 hg w13 hbox hb;have B102:=am_ (hbox);have GW102:=gw_ HB hg;have GE102:=gw_ HB hg;replace HB:=am_ (below_step (be_ HB) hb);clear hb hbox hg;obtain⟨Z14_0,Z14_1,Z14_2,F14_0,F14_1,F14_2⟩:=bz3_ B102)|((with_reducible refine gc_ 71 rfl ?_);refine gk_ 11 Try.func71 (impl_within.calls a0_0 a1 a2 false _ A4.out) ?_;rintro e w' ⟨rfl,⟨nd,rfl⟩⟩;refine⟨_,rfl,?_⟩));go_ret;exact⟨er_,bf_ HB⟩

/-! ### impl_TagOk: function 80 -/
def impl_TagOk.f (a0_0:Int) (a0_1:Int) (a0_2:Int):Option (Bool):=(impl_Vec_isFrom.f a0_0 a0_1 a0_2 0 1000000000000).bind fun t107=>(some t107)
set_option maxHeartbeats 8000000 in
set_option maxRecDepth 100000 in
theorem impl_TagOk.calls (a0_0:Int) (a0_1:Int) (a0_2:Int) (r:Bool) (w:World) (h:impl_TagOk.f a0_0 a0_1 a0_2=some r) :
  Calls Try.prog 80 #[.agg #[.int .i64 a0_0,.int .i64 a0_1,.int .i64 a0_2]] w fun e w'=>e=.returned (.bool r)∧Below w.heap.size w w':=by
 have hu28:=Try.underlying28;have HB:=am_ (Below.refl w.heap.size w);have H:=h;clear h;unfold impl_TagOk.f at H;replace H:=bm1_ H;obtain⟨t107,A2,H⟩:=H;obtain rfl:=Option.some.inj H
 go_enter Try.func80,Try.ntmps80
 go_wp2_with (first|((with_reducible refine gd_ 1 rfl ?_);refine bv_ 1 #[.int .i64 a0_0,.int .i64 a0_1,.int .i64 a0_2] 28 ?_;intro gb106 hg w3 hbox hb;have B106:=am_ (hbox);have GW106:=gw_ HB hg;have GE106:=gw_ HB hg;replace HB:=am_ (below_step (be_ HB) hb);clear hb hbox hg;obtain⟨Z4_0,Z4_1,Z4_2,F4_0,F4_1,F4_2⟩:=bz3_ B106)|((with_reducible refine gc_ 82 rfl ?_);refine gk_ 4 Try.func82 (impl_Vec_isFrom.calls a0_0 a0_1 a0_2 0 1000000000000 t107 _ A2.out) ?_;rintro e w5 ⟨rfl,hb⟩;refine⟨_,rfl,?_⟩;replace B106:=bb_ B106 hb;replace HB:=sb_ HB hb;clear hb));go_ret;exact⟨er_,bf_ HB⟩

/-! ### impl_isDelta: function 81 -/
def impl_isDelta.f (a0:Int):Option (Bool):=(impl_within.f a0 0 10000000).bind fun t108=>(some t108)
set_option maxHeartbeats 8000000 in
set_option maxRecDepth 100000 in
theorem impl_isDelta.calls (a0:Int) (r:Bool) (w:World) (h:impl_isDelta.f a0=some r) :
  Calls Try.prog 81 #[.int .i64 a0] w fun e w'=>e=.returned (.bool r)∧Drawn0 w w':=by
 have H:=h;clear h;unfold impl_isDelta.f at H;replace H:=bm1_ H;obtain⟨t108,A2,H⟩:=H;obtain rfl:=Option.some.inj H
 go_enter Try.func81,Try.ntmps81
 go_wp2_with (first|((with_reducible refine gc_ 71 rfl ?_);refine gk_ 4 Try.func71 (impl_within.calls a0 0 10000000 t108 _ A2.out) ?_;rintro e w' ⟨rfl,⟨nd,rfl⟩⟩;refine⟨_,rfl,?_⟩));go_ret;exact⟨by first|rfl|(simp;done)|(simp [*];done),by repeat (first|exact Drawn0.refl _|apply Drawn0.step)⟩

/-! ### impl_Narrow: function 51 -/
def impl_Narrow.f (a0_0:Int) (a0_1:Int) (a0_2:Int) (a1:Int):Option (Bool):=(impl_TagOk.f a0_0 a0_1 a0_2).bind fun t110=>(if t110=true then((impl_isDelta.f a1).bind fun t111=>(if t111=true then((impl_VecTop.f a0_0 a0_1 a0_2).bind fun t112=>((impl_Vec_isFrom.f a0_0 a0_1 a0_2 (wrap64 (t112 - a1)) 1000000000000).bind fun t113=>(some t113))) else(some false))) else(some false))
def impl_Narrow.T1:Bool × List (List Nat × List Nat):=(true,[([],[]),([0],[0]),([1,1],[1]),([2],[2]),([3,2,2],[2,3]),([2,4],[2,4]),([5,4],[5]),([6],[6]),([6],[6]),([8,6,6],[6,8]),([6],[6]),([9,10,6],[6,9,10]),([7,11,9,6],[6,7,11]),([6,12],[6,12]),([13,12,0,1,2,3,4,5,6,7,8,9,10,11,12,13],[13])])
def impl_Narrow.B1:List Nat:=[0,1,3,7,15,31,63,127,127,383,127,1919,4095,8191,16383]
theorem impl_Narrow.tab1:rtab .any (opsOf Try.f51 1)=impl_Narrow.T1:=by kernel_rfl
theorem impl_Narrow.bits1:waitsOk impl_Narrow.T1.2 impl_Narrow.B1=true:=by kernel_rfl
set_option maxHeartbeats 8000000 in
set_option maxRecDepth 100000 in
theorem impl_Narrow.calls (a0_0:Int) (a0_1:Int) (a0_2:Int) (a1:Int) (r:Bool) (w:World) (h:impl_Narrow.f a0_0 a0_1 a0_2 a1=some r) :
  Calls Try.prog 51 #[.agg #[.int .i64 a0_0,.int .i64 a0_1,.int .i64 a0_2],.int .i64 a1] w fun e w'=>e=.returned (.bool r)∧Below w.heap.size w w':=by
 have hu28:=Try.underlying28;have HB:=am_ (Below.refl w.heap.size w);have H:=h;clear h;unfold impl_Narrow.f at H;replace H:=bm1_ H;obtain⟨t110,A3,H⟩:=H
 by_cases c4:t110=true
 ·subst c4;rw [if_pos rfl]at H;replace H:=bm1_ H;obtain⟨t111,A5,H⟩:=H
  by_cases c6:t111=true
  ·subst c6;rw [if_pos rfl]at H;replace H:=bm1_ H;obtain⟨t112,A7,H⟩:=H;replace H:=bm1_ H;obtain⟨t113,A8,H⟩:=H;obtain rfl:=Option.some.inj H
   go_enter Try.func51,Try.ntmps51
   try go_wp2_with (first|((with_reducible refine gd_ 2 rfl ?_);refine bv_ 2 #[.int .i64 a0_0,.int .i64 a0_1,.int .i64 a0_2] 28 ?_;intro gb109 hg w9 hbox hb;have B109:=am_ (hbox);have GW109:=gw_ HB hg;have GE109:=gw_ HB hg;replace HB:=am_ (below_step (be_ HB) hb);clear hb hbox hg))
   replace B109:=bd_ B109;replace HB:=be1_ HB;refine start_ (n:=15) (S:=fun w'=>cc3_ w' gb109 (.int .i64 a0_0) (.int .i64 a0_1) (.int .i64 a0_2)) (ds:=[]) (bs 15 0) (by kernel_rfl) rfl rfl (bo3_ B109) (fun hH=>?_);refine with_tabW impl_Narrow.tab1 impl_Narrow.bits1 (fun HT_ HW_=>?_);generalize w9.drew=w10 at B109 HB hH ⊢;refine tkn_ HT_ HW_ hH ?_;refine on_ 1 (some 6) (bs 15 2) HT_ (fun K hK=>?_);refine gz_ Try.func80 (impl_TagOk.calls a0_0 a0_1 a0_2 true _ A3.out) ?_;rintro e w11 ⟨rfl,hb⟩;refine⟨_,rfl,?_⟩;replace B109:=bb_ B109 hb;replace HB:=sb_ HB hb;(try clear hb);refine hK.out _ _ (bo3_ B109) (fun hH=>?_);clear hK K;refine norm_ (a':=?_) ?_ ?_;rotate_left
   ·show Act.put _ (some 6) _=_;simp only [Act.put,ls0_,ls1_,ls2_,i64_w,i32_w];rfl
   (iterate 2 (refine psn_ HT_ ?_));refine on_ 4 (some 9) (bs 15 5) HT_ (fun K hK=>?_);refine gz_ Try.func81 (impl_isDelta.calls a1 true _ A5.out) ?_;rintro e w' ⟨rfl,⟨nd,rfl⟩⟩;refine⟨_,rfl,?_⟩;refine hK.out _ _ (bo3_ B109) (fun hH=>?_);clear hK K;refine norm_ (a':=?_) ?_ ?_;rotate_left
   ·show Act.put _ (some 9) _=_;simp only [Act.put,ls0_,ls1_,ls2_,i64_w,i32_w];rfl
   (iterate 2 (refine psn_ HT_ ?_));refine ps_ 10 15 (bm 15 1151) HT_ ?_;refine tk_ 7 12 (bm 15 1279) HT_ HW_ hH ?_;refine tk_ 8 13 (bm 15 1535) HT_ HW_ hH ?_;refine on_ 9 (some 14) (bs 15 11) HT_ (fun K hK=>?_);refine gz_ Try.func52 (impl_VecTop.calls a0_0 a0_1 a0_2 t112 _ A7.out) ?_;rintro e w12 ⟨rfl,hb⟩;refine⟨_,rfl,?_⟩;replace B109:=bb_ B109 hb;replace HB:=sb_ HB hb;(try clear hb);refine hK.out _ _ (bo3_ B109) (fun hH=>?_);clear hK K;refine norm_ (a':=?_) ?_ ?_;rotate_left
   ·show Act.put _ (some 14) _=_;simp only [Act.put,ls0_,ls1_,ls2_,i64_w,i32_w];rfl
   refine psn_ HT_ ?_;refine on_ 12 (some 17) (bs 15 13) HT_ (fun K hK=>?_);refine gz_ Try.func82 (impl_Vec_isFrom.calls a0_0 a0_1 a0_2 (wrap64 (t112 - a1)) 1000000000000 t113 _ A8.out) ?_;rintro e w13 ⟨rfl,hb⟩;refine⟨_,rfl,?_⟩;replace B109:=bb_ B109 hb;replace HB:=sb_ HB hb;(try clear hb);refine hK.out _ _ (bo3_ B109) (fun hH=>?_);clear hK K;refine norm_ (a':=?_) ?_ ?_;rotate_left
   ·show Act.put _ (some 17) _=_;simp only [Act.put,ls0_,ls1_,ls2_,i64_w,i32_w];rfl
   (iterate 2 (refine psn_ HT_ ?_));refine done_ (done_of HT_.out (by kernel_rfl)) ?_
   try go_wp2
   go_ret;exact⟨er_,bf_ HB⟩
  ·replace c6:=Bool.eq_false_iff.mpr c6;subst c6;rw [if_neg (show ¬ (false=true) by decide)]at H;obtain rfl:=Option.some.inj H
   go_enter Try.func51,Try.ntmps51
   try go_wp2_with (first|((with_reducible refine gd_ 2 rfl ?_);refine bv_ 2 #[.int .i64 a0_0,.int .i64 a0_1,.int .i64 a0_2] 28 ?_;intro gb109 hg w14 hbox hb;have B109:=am_ (hbox);have GW109:=gw_ HB hg;have GE109:=gw_ HB hg;replace HB:=am_ (below_step (be_ HB) hb);clear hb hbox hg))
   replace B109:=bd_ B109;replace HB:=be1_ HB;refine start_ (n:=15) (S:=fun w'=>cc3_ w' gb109 (.int .i64 a0_0) (.int .i64 a0_1) (.int .i64 a0_2)) (ds:=[]) (bs 15 0) (by kernel_rfl) rfl rfl (bo3_ B109) (fun hH=>?_);refine with_tabW impl_Narrow.tab1 impl_Narrow.bits1 (fun HT_ HW_=>?_);generalize w14.drew=w15 at B109 HB hH ⊢;refine tkn_ HT_ HW_ hH ?_;refine on_ 1 (some 6) (bs 15 2) HT_ (fun K hK=>?_);refine gz_ Try.func80 (impl_TagOk.calls a0_0 a0_1 a0_2 true _ A3.out) ?_;rintro e w16 ⟨rfl,hb⟩;refine⟨_,rfl,?_⟩;replace B109:=bb_ B109 hb;replace HB:=sb_ HB hb;(try clear hb);refine hK.out _ _ (bo3_ B109) (fun hH=>?_);clear hK K;refine norm_ (a':=?_) ?_ ?_;rotate_left
   ·show Act.put _ (some 6) _=_;simp only [Act.put,ls0_,ls1_,ls2_,i64_w,i32_w];rfl
   (iterate 2 (refine psn_ HT_ ?_));refine on_ 4 (some 9) (bs 15 5) HT_ (fun K hK=>?_);refine gz_ Try.func81 (impl_isDelta.calls a1 false _ A5.out) ?_;rintro e w' ⟨rfl,⟨nd,rfl⟩⟩;refine⟨_,rfl,?_⟩;refine hK.out _ _ (bo3_ B109) (fun hH=>?_);clear hK K;refine norm_ (a':=?_) ?_ ?_;rotate_left
   ·show Act.put _ (some 9) _=_;simp only [Act.put,ls0_,ls1_,ls2_,i64_w,i32_w];rfl
   (iterate 2 (refine psn_ HT_ ?_));(iterate 6 (refine pun_ HT_ ?_));(iterate 2 (refine psn_ HT_ ?_));refine done_ (done_of HT_.out (by kernel_rfl)) ?_
   try go_wp2
   go_ret;exact⟨er_,bf_ HB⟩
 ·replace c4:=Bool.eq_false_iff.mpr c4;subst c4;rw [if_neg (show ¬ (false=true) by decide)]at H;obtain rfl:=Option.some.inj H
  go_enter Try.func51,Try.ntmps51
  try go_wp2_with (first|((with_reducible refine gd_ 2 rfl ?_);refine bv_ 2 #[.int .i64 a0_0,.int .i64 a0_1,.int .i64 a0_2] 28 ?_;intro gb109 hg w17 hbox hb;have B109:=am_ (hbox);have GW109:=gw_ HB hg;have GE109:=gw_ HB hg;replace HB:=am_ (below_step (be_ HB) hb);clear hb hbox hg))
  replace B109:=bd_ B109;replace HB:=be1_ HB;refine start_ (n:=15) (S:=fun w'=>cc3_ w' gb109 (.int .i64 a0_0) (.int .i64 a0_1) (.int .i64 a0_2)) (ds:=[]) (bs 15 0) (by kernel_rfl) rfl rfl (bo3_ B109) (fun hH=>?_);refine with_tabW impl_Narrow.tab1 impl_Narrow.bits1 (fun HT_ HW_=>?_);generalize w17.drew=w18 at B109 HB hH ⊢;refine tkn_ HT_ HW_ hH ?_;refine on_ 1 (some 6) (bs 15 2) HT_ (fun K hK=>?_);refine gz_ Try.func80 (impl_TagOk.calls a0_0 a0_1 a0_2 false _ A3.out) ?_;rintro e w19 ⟨rfl,hb⟩;refine⟨_,rfl,?_⟩;replace B109:=bb_ B109 hb;replace HB:=sb_ HB hb;(try clear hb);refine hK.out _ _ (bo3_ B109) (fun hH=>?_);clear hK K;refine norm_ (a':=?_) ?_ ?_;rotate_left
  ·show Act.put _ (some 6) _=_;simp only [Act.put,ls0_,ls1_,ls2_,i64_w,i32_w];rfl
  refine psn_ HT_ ?_;(iterate 2 (refine pun_ HT_ ?_));(iterate 2 (refine psn_ HT_ ?_));(iterate 6 (refine pun_ HT_ ?_));(iterate 2 (refine psn_ HT_ ?_));refine done_ (done_of HT_.out (by kernel_rfl)) ?_
  try go_wp2
  go_ret;exact⟨er_,bf_ HB⟩

/-! ### impl_isFlow: function 44 -/
def impl_isFlow.f (a0:Int):Option (Bool):=(impl_within.f a0 0 9999).bind fun t114=>(some t114)
set_option maxHeartbeats 8000000 in
set_option maxRecDepth 100000 in
theorem impl_isFlow.calls (a0:Int) (r:Bool) (w:World) (h:impl_isFlow.f a0=some r) :
  Calls Try.prog 44 #[.int .i64 a0] w fun e w'=>e=.returned (.bool r)∧Drawn0 w w':=by
 have H:=h;clear h;unfold impl_isFlow.f at H;replace H:=bm1_ H;obtain⟨t114,A2,H⟩:=H;obtain rfl:=Option.some.inj H
 go_enter Try.func44,Try.ntmps44
 go_wp2_with (first|((with_reducible refine gc_ 71 rfl ?_);refine gk_ 4 Try.func71 (impl_within.calls a0 0 9999 t114 _ A2.out) ?_;rintro e w' ⟨rfl,⟨nd,rfl⟩⟩;refine⟨_,rfl,?_⟩));go_ret;exact⟨by first|rfl|(simp;done)|(simp [*];done),by repeat (first|exact Drawn0.refl _|apply Drawn0.step)⟩

/-! ### impl_isWeight: function 45 -/
def impl_isWeight.f (a0:Int):Option (Bool):=(impl_within.f a0 1 10).bind fun t115=>(some t115)
set_option maxHeartbeats 8000000 in
set_option maxRecDepth 100000 in
theorem impl_isWeight.calls (a0:Int) (r:Bool) (w:World) (h:impl_isWeight.f a0=some r) :
  Calls Try.prog 45 #[.int .i64 a0] w fun e w'=>e=.returned (.bool r)∧Drawn0 w w':=by
 have H:=h;clear h;unfold impl_isWeight.f at H;replace H:=bm1_ H;obtain⟨t115,A2,H⟩:=H;obtain rfl:=Option.some.inj H
 go_enter Try.func45,Try.ntmps45
 go_wp2_with (first|((with_reducible refine gc_ 71 rfl ?_);refine gk_ 4 Try.func71 (impl_within.calls a0 1 10 t115 _ A2.out) ?_;rintro e w' ⟨rfl,⟨nd,rfl⟩⟩;refine⟨_,rfl,?_⟩));go_ret;exact⟨by first|rfl|(simp;done)|(simp [*];done),by repeat (first|exact Drawn0.refl _|apply Drawn0.step)⟩

/-! ### impl_Stride: function 83 -/
def impl_Stride.f (a0:Int):Option (Int):=(impl_isWeight.f a0).bind fun t116=>(if t116=true then(if a0=0 then(none) else(some (wrap64 ((2520:Int) / a0)))) else(some 0))
set_option maxHeartbeats 8000000 in
set_option maxRecDepth 100000 in
theorem impl_Stride.calls (a0:Int) (r:Int) (w:World) (h:impl_Stride.f a0=some r) :
  Calls Try.prog 83 #[.int .i64 a0] w fun e w'=>e=.returned (.int .i64 r)∧Drawn0 w w':=by
 have H:=h;clear h;unfold impl_Stride.f at H;replace H:=bm1_ H;obtain⟨t116,A2,H⟩:=H
 by_cases c3:t116=true
 ·subst c3;rw [if_pos rfl]at H
  by_cases c4:a0=0
  ·rw [if_pos c4]at H;exact absurd H (by simp)
  ·rw [if_neg c4]at H;have c4b0:(a0 == 0)=false:=beq_eq_false_iff_ne.mpr c4;have c4b1:(a0 != 0)=true:=bne_iff_ne.mpr c4;obtain rfl:=Option.some.inj H
   go_enter Try.func83,Try.ntmps83
   go_wp2_with (first|((with_reducible refine gc_ 45 rfl ?_);refine gk_ 4 Try.func45 (impl_isWeight.calls a0 true _ A2.out) ?_;rintro e w' ⟨rfl,⟨nd,rfl⟩⟩;refine⟨_,rfl,?_⟩));go_ret;exact⟨by first|rfl|(simp;rw [Int.tdiv_eq_ediv_of_nonneg]<;>first|decide|omega)|(simp;done)|(simp [*];done),by repeat (first|exact Drawn0.refl _|apply Drawn0.step)⟩
 ·replace c3:=Bool.eq_false_iff.mpr c3;subst c3;rw [if_neg (show ¬ (false=true) by decide)]at H;obtain rfl:=Option.some.inj H
  go_enter Try.func83,Try.ntmps83
  go_wp2_with (first|((with_reducible refine gc_ 45 rfl ?_);refine gk_ 4 Try.func45 (impl_isWeight.calls a0 false _ A2.out) ?_;rintro e w' ⟨rfl,⟨nd,rfl⟩⟩;refine⟨_,rfl,?_⟩));go_ret;exact⟨by first|rfl|(simp;rw [Int.tdiv_eq_ediv_of_nonneg]<;>first|decide|omega)|(simp;done)|(simp [*];done),by repeat (first|exact Drawn0.refl _|apply Drawn0.step)⟩

end Go.Proofs.Ytppmbdfbhahngaa.PFnPickFirst
