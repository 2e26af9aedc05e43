-- printed by a program of this session (wip/printx) out of the translation; Lean checks it
import Derived.Test.YtppmbdfbhahngaaVFnWaits
import Derived.Test.YtppmbdfbhahngaaPFnWaitsx0
import Derived.Test.YtppmbdfbhahngaaPFnWaitsx11
namespace Go.Proofs.Ytppmbdfbhahngaa.PFnWaits
open Go.RowKit Go.Proofs.YtppmbdfbhahngaaW.PrintWords Go.Proofs.YtppmbdfbhahngaaW.PrintLast Go.Proofs.YtppmbdfbhahngaaW.PrintMore
attribute [local go_sem] max2_int min2_int max_two min_two max_three min_three max_four min_four   -- for this text's walks alone
set_option linter.unusedVariables false
set_option linter.unusedSimpArgs false

/-! ### impl_within: function 71 -/
def impl_within.f (a0:Int) (a1:Int) (a2:Int):Option (Bool):=if a0 ≥ a1 then(some (decide (a0≤a2))) else(some false)
set_option maxHeartbeats 8000000 in
set_option maxRecDepth 100000 in
theorem impl_within.calls (a0:Int) (a1:Int) (a2:Int) (r:Bool) (w:World) (h:impl_within.f a0 a1 a2=some r) :
  Calls Try.prog 71 #[.int .i64 a0,.int .i64 a1,.int .i64 a2] w fun e w'=>e=.returned (.bool r)∧Drawn0 w w':=by
 have H:=h;clear h;unfold impl_within.f at H
 by_cases c4:a0 ≥ a1
 ·rw [if_pos c4]at H;have c4b0:decide (a1≤a0)=true:=decide_eq_true c4;clear c4;obtain rfl:=Option.some.inj H
  go_enter Try.func71,Try.ntmps71
  go_wp2;go_ret;exact⟨by first|rfl|(simp;done)|(simp [*];done),by repeat (first|exact Drawn0.refl _|apply Drawn0.step)⟩
 ·rw [if_neg c4]at H;have c4b0:decide (a1≤a0)=false:=decide_eq_false c4;clear c4;obtain rfl:=Option.some.inj H
  go_enter Try.func71,Try.ntmps71
  go_wp2;go_ret;exact⟨by first|rfl|(simp;done)|(simp [*];done),by repeat (first|exact Drawn0.refl _|apply Drawn0.step)⟩

/-! ### impl_Vec_isFrom: function 82 -/
def impl_Vec_isFrom.f (a0_0:Int) (a0_1:Int) (a0_2:Int) (a1:Int) (a2:Int):Option (Bool):=(impl_within.f a0_0 a1 a2).bind fun t545=>(if t545=true then((impl_within.f a0_1 a1 a2).bind fun t546=>(if t546=true then((impl_within.f a0_2 a1 a2).bind fun t547=>(some t547)) else(some false))) else(some false))
set_option maxHeartbeats 8000000 in
set_option maxRecDepth 100000 in
theorem impl_Vec_isFrom.calls (a0_0:Int) (a0_1:Int) (a0_2:Int) (a1:Int) (a2:Int) (r:Bool) (w:World) (h:impl_Vec_isFrom.f a0_0 a0_1 a0_2 a1 a2=some r) :
  Calls Try.prog 82 #[.agg #[.int .i64 a0_0,.int .i64 a0_1,.int .i64 a0_2],.int .i64 a1,.int .i64 a2] w fun e w'=>e=.returned (.bool r)∧Below w.heap.size w w':=by
 have hu28:=Try.underlying28;have HB:=am_ (Below.refl w.heap.size w);have H:=h;clear h;unfold impl_Vec_isFrom.f at H;replace H:=bm1_ H;obtain⟨t545,A4,H⟩:=H
 by_cases c5:t545=true
 ·subst c5;rw [if_pos rfl]at H;replace H:=bm1_ H;obtain⟨t546,A6,H⟩:=H
  by_cases c7:t546=true
  ·subst c7;rw [if_pos rfl]at H;replace H:=bm1_ H;obtain⟨t547,A8,H⟩:=H;obtain rfl:=Option.some.inj H
   go_enter Try.func82,Try.ntmps82
   go_wp2_with (first|((with_reducible refine gd_ 3 rfl ?_);refine bv_ 3 #[.int .i64 a0_0,.int .i64 a0_1,.int .i64 a0_2] 28 ?_;intro gb544 hg w9 hbox hb;have B544:=am_ (hbox);have GW544:=gw_ HB hg;have GE544:=gw_ HB hg;replace HB:=am_ (below_step (be_ HB) hb);clear hb hbox hg;obtain⟨Z10_0,Z10_1,Z10_2,F10_0,F10_1,F10_2⟩:=bz3_ B544)|((with_reducible refine gc_ 71 rfl ?_);refine gk_ 11 Try.func71 (impl_within.calls a0_0 a1 a2 true _ A4.out) ?_;rintro e w' ⟨rfl,⟨nd,rfl⟩⟩;refine⟨_,rfl,?_⟩)|(go_at_call 71;(with_reducible refine(impl_within.calls a0_1 a1 a2 true _ A6.out).mono ?_);rintro e w' ⟨rfl,⟨nd,rfl⟩⟩)|(go_at_call 71;(with_reducible refine(impl_within.calls a0_2 a1 a2 t547 _ A8.out).mono ?_);rintro e w' ⟨rfl,⟨nd,rfl⟩⟩));go_ret;exact⟨er_,bf_ HB⟩
  ·replace c7:=Bool.eq_false_iff.mpr c7;subst c7;rw [if_neg (show ¬ (false=true) by decide)]at H;obtain rfl:=Option.some.inj H
   go_enter Try.func82,Try.ntmps82
   go_wp2_with (first|((with_reducible refine gd_ 3 rfl ?_);refine bv_ 3 #[.int .i64 a0_0,.int .i64 a0_1,.int .i64 a0_2] 28 ?_;intro gb544 hg w11 hbox hb;have B544:=am_ (hbox);have GW544:=gw_ HB hg;have GE544:=gw_ HB hg;replace HB:=am_ (below_step (be_ HB) hb);clear hb hbox hg;obtain⟨Z12_0,Z12_1,Z12_2,F12_0,F12_1,F12_2⟩:=bz3_ B544)|((with_reducible refine gc_ 71 rfl ?_);refine gk_ 11 Try.func71 (impl_within.calls a0_0 a1 a2 true _ A4.out) ?_;rintro e w' ⟨rfl,⟨nd,rfl⟩⟩;refine⟨_,rfl,?_⟩)|(go_at_call 71;(with_reducible refine(impl_within.calls a0_1 a1 a2 false _ A6.out).mono ?_);rintro e w' ⟨rfl,⟨nd,rfl⟩⟩));go_ret;exact⟨er_,bf_ HB⟩
 ·replace c5:=Bool.eq_false_iff.mpr c5;subst c5;rw [if_neg (show ¬ (false=true) by decide)]at H;obtain rfl:=Option.some.inj H
  go_enter Try.func82,Try.ntmps82
  go_wp2_with (first|((with_reducible refine gd_ 3 rfl ?_);refine bv_ 3 #[.int .i64 a0_0,.int .i64 a0_1,.int .i64 a0_2] 28 ?_;intro gb544 hg w13 hbox hb;have B544:=am_ (hbox);have GW544:=gw_ HB hg;have GE544:=gw_ HB hg;replace HB:=am_ (below_step (be_ HB) hb);clear hb hbox hg;obtain⟨Z14_0,Z14_1,Z14_2,F14_0,F14_1,F14_2⟩:=bz3_ B544)|((with_reducible refine gc_ 71 rfl ?_);refine gk_ 11 Try.func71 (impl_within.calls a0_0 a1 a2 false _ A4.out) ?_;rintro e w' ⟨rfl,⟨nd,rfl⟩⟩;refine⟨_,rfl,?_⟩));go_ret;exact⟨er_,bf_ HB⟩

/-! ### impl_TagOk: function 80 -/
def impl_TagOk.f (a0_0:Int) (a0_1:Int) (a0_2:Int):Option (Bool):=(impl_Vec_isFrom.f a0_0 a0_1 a0_2 0 1000000000000).bind fun t549=>(some t549)
set_option maxHeartbeats 8000000 in
set_option maxRecDepth 100000 in
theorem impl_TagOk.calls (a0_0:Int) (a0_1:Int) (a0_2:Int) (r:Bool) (w:World) (h:impl_TagOk.f a0_0 a0_1 a0_2=some r) :
  Calls Try.prog 80 #[.agg #[.int .i64 a0_0,.int .i64 a0_1,.int .i64 a0_2]] w fun e w'=>e=.returned (.bool r)∧Below w.heap.size w w':=by
 have hu28:=Try.underlying28;have HB:=am_ (Below.refl w.heap.size w);have H:=h;clear h;unfold impl_TagOk.f at H;replace H:=bm1_ H;obtain⟨t549,A2,H⟩:=H;obtain rfl:=Option.some.inj H
 go_enter Try.func80,Try.ntmps80
 go_wp2_with (first|((with_reducible refine gd_ 1 rfl ?_);refine bv_ 1 #[.int .i64 a0_0,.int .i64 a0_1,.int .i64 a0_2] 28 ?_;intro gb548 hg w3 hbox hb;have B548:=am_ (hbox);have GW548:=gw_ HB hg;have GE548:=gw_ HB hg;replace HB:=am_ (below_step (be_ HB) hb);clear hb hbox hg;obtain⟨Z4_0,Z4_1,Z4_2,F4_0,F4_1,F4_2⟩:=bz3_ B548)|((with_reducible refine gc_ 82 rfl ?_);refine gk_ 4 Try.func82 (impl_Vec_isFrom.calls a0_0 a0_1 a0_2 0 1000000000000 t549 _ A2.out) ?_;rintro e w5 ⟨rfl,hb⟩;refine⟨_,rfl,?_⟩;replace B548:=bb_ B548 hb;replace HB:=sb_ HB hb;clear hb));go_ret;exact⟨er_,bf_ HB⟩

/-! ### impl_isDelta: function 81 -/
def impl_isDelta.f (a0:Int):Option (Bool):=(impl_within.f a0 0 10000000).bind fun t550=>(some t550)
set_option maxHeartbeats 8000000 in
set_option maxRecDepth 100000 in
theorem impl_isDelta.calls (a0:Int) (r:Bool) (w:World) (h:impl_isDelta.f a0=some r) :
  Calls Try.prog 81 #[.int .i64 a0] w fun e w'=>e=.returned (.bool r)∧Drawn0 w w':=by
 have H:=h;clear h;unfold impl_isDelta.f at H;replace H:=bm1_ H;obtain⟨t550,A2,H⟩:=H;obtain rfl:=Option.some.inj H
 go_enter Try.func81,Try.ntmps81
 go_wp2_with (first|((with_reducible refine gc_ 71 rfl ?_);refine gk_ 4 Try.func71 (impl_within.calls a0 0 10000000 t550 _ A2.out) ?_;rintro e w' ⟨rfl,⟨nd,rfl⟩⟩;refine⟨_,rfl,?_⟩));go_ret;exact⟨by first|rfl|(simp;done)|(simp [*];done),by repeat (first|exact Drawn0.refl _|apply Drawn0.step)⟩

/-! ### impl_Narrow: function 51 -/
def impl_Narrow.f (a0_0:Int) (a0_1:Int) (a0_2:Int) (a1:Int):Option (Bool):=(impl_TagOk.f a0_0 a0_1 a0_2).bind fun t552=>(if t552=true then((impl_isDelta.f a1).bind fun t553=>(if t553=true then((impl_VecTop.f a0_0 a0_1 a0_2).bind fun t554=>((impl_Vec_isFrom.f a0_0 a0_1 a0_2 (wrap64 (t554 - a1)) 1000000000000).bind fun t555=>(some t555))) else(some false))) else(some false))
def impl_Narrow.T1:Bool × List (List Nat × List Nat):=(true,[([],[]),([0],[0]),([1,1],[1]),([2],[2]),([3,2,2],[2,3]),([2,4],[2,4]),([5,4],[5]),([6],[6]),([6],[6]),([8,6,6],[6,8]),([6],[6]),([9,10,6],[6,9,10]),([7,11,9,6],[6,7,11]),([6,12],[6,12]),([13,12,0,1,2,3,4,5,6,7,8,9,10,11,12,13],[13])])
def impl_Narrow.B1:List Nat:=[0,1,3,7,15,31,63,127,127,383,127,1919,4095,8191,16383]
theorem impl_Narrow.tab1:rtab .any (opsOf Try.f51 1)=impl_Narrow.T1:=by kernel_rfl
theorem impl_Narrow.bits1:waitsOk impl_Narrow.T1.2 impl_Narrow.B1=true:=by kernel_rfl
set_option maxHeartbeats 8000000 in
set_option maxRecDepth 100000 in
theorem impl_Narrow.calls (a0_0:Int) (a0_1:Int) (a0_2:Int) (a1:Int) (r:Bool) (w:World) (h:impl_Narrow.f a0_0 a0_1 a0_2 a1=some r) :
  Calls Try.prog 51 #[.agg #[.int .i64 a0_0,.int .i64 a0_1,.int .i64 a0_2],.int .i64 a1] w fun e w'=>e=.returned (.bool r)∧Below w.heap.size w w':=by
 have hu28:=Try.underlying28;have HB:=am_ (Below.refl w.heap.size w);have H:=h;clear h;unfold impl_Narrow.f at H;replace H:=bm1_ H;obtain⟨t552,A3,H⟩:=H
 by_cases c4:t552=true
 ·subst c4;rw [if_pos rfl]at H;replace H:=bm1_ H;obtain⟨t553,A5,H⟩:=H
  by_cases c6:t553=true
  ·subst c6;rw [if_pos rfl]at H;replace H:=bm1_ H;obtain⟨t554,A7,H⟩:=H;replace H:=bm1_ H;obtain⟨t555,A8,H⟩:=H;obtain rfl:=Option.some.inj H
   go_enter Try.func51,Try.ntmps51
   try go_wp2_with (first|((with_reducible refine gd_ 2 rfl ?_);refine bv_ 2 #[.int .i64 a0_0,.int .i64 a0_1,.int .i64 a0_2] 28 ?_;intro gb551 hg w9 hbox hb;have B551:=am_ (hbox);have GW551:=gw_ HB hg;have GE551:=gw_ HB hg;replace HB:=am_ (below_step (be_ HB) hb);clear hb hbox hg))
   replace B551:=bd_ B551;replace HB:=be1_ HB;refine start_ (n:=15) (S:=fun w'=>cc3_ w' gb551 (.int .i64 a0_0) (.int .i64 a0_1) (.int .i64 a0_2)) (ds:=[]) (bs 15 0) (by kernel_rfl) rfl rfl (bo3_ B551) (fun hH=>?_);refine with_tabW impl_Narrow.tab1 impl_Narrow.bits1 (fun HT_ HW_=>?_);generalize w9.drew=w10 at B551 HB hH ⊢;refine tkn_ HT_ HW_ hH ?_;refine on_ 1 (some 6) (bs 15 2) HT_ (fun K hK=>?_);refine gz_ Try.func80 (impl_TagOk.calls a0_0 a0_1 a0_2 true _ A3.out) ?_;rintro e w11 ⟨rfl,hb⟩;refine⟨_,rfl,?_⟩;replace B551:=bb_ B551 hb;replace HB:=sb_ HB hb;(try clear hb);refine hK.out _ _ (bo3_ B551) (fun hH=>?_);clear hK K;refine norm_ (a':=?_) ?_ ?_;rotate_left
   ·show Act.put _ (some 6) _=_;simp only [Act.put,ls0_,ls1_,ls2_,i64_w,i32_w];rfl
   (iterate 2 (refine psn_ HT_ ?_));refine on_ 4 (some 9) (bs 15 5) HT_ (fun K hK=>?_);refine gz_ Try.func81 (impl_isDelta.calls a1 true _ A5.out) ?_;rintro e w' ⟨rfl,⟨nd,rfl⟩⟩;refine⟨_,rfl,?_⟩;refine hK.out _ _ (bo3_ B551) (fun hH=>?_);clear hK K;refine norm_ (a':=?_) ?_ ?_;rotate_left
   ·show Act.put _ (some 9) _=_;simp only [Act.put,ls0_,ls1_,ls2_,i64_w,i32_w];rfl
   (iterate 2 (refine psn_ HT_ ?_));refine ps_ 10 15 (bm 15 1151) HT_ ?_;refine tk_ 7 12 (bm 15 1279) HT_ HW_ hH ?_;refine tk_ 8 13 (bm 15 1535) HT_ HW_ hH ?_;refine on_ 9 (some 14) (bs 15 11) HT_ (fun K hK=>?_);refine gz_ Try.func52 (impl_VecTop.calls a0_0 a0_1 a0_2 t554 _ A7.out) ?_;rintro e w12 ⟨rfl,hb⟩;refine⟨_,rfl,?_⟩;replace B551:=bb_ B551 hb;replace HB:=sb_ HB hb;(try clear hb);refine hK.out _ _ (bo3_ B551) (fun hH=>?_);clear hK K;refine norm_ (a':=?_) ?_ ?_;rotate_left
   ·show Act.put _ (some 14) _=_;simp only [Act.put,ls0_,ls1_,ls2_,i64_w,i32_w];rfl
   refine psn_ HT_ ?_;refine on_ 12 (some 17) (bs 15 13) HT_ (fun K hK=>?_);refine gz_ Try.func82 (impl_Vec_isFrom.calls a0_0 a0_1 a0_2 (wrap64 (t554 - a1)) 1000000000000 t555 _ A8.out) ?_;rintro e w13 ⟨rfl,hb⟩;refine⟨_,rfl,?_⟩;replace B551:=bb_ B551 hb;replace HB:=sb_ HB hb;(try clear hb);refine hK.out _ _ (bo3_ B551) (fun hH=>?_);clear hK K;refine norm_ (a':=?_) ?_ ?_;rotate_left
   ·show Act.put _ (some 17) _=_;simp only [Act.put,ls0_,ls1_,ls2_,i64_w,i32_w];rfl
   (iterate 2 (refine psn_ HT_ ?_));refine done_ (done_of HT_.out (by kernel_rfl)) ?_
   try go_wp2
   go_ret;exact⟨er_,bf_ HB⟩
  ·replace c6:=Bool.eq_false_iff.mpr c6;subst c6;rw [if_neg (show ¬ (false=true) by decide)]at H;obtain rfl:=Option.some.inj H
   go_enter Try.func51,Try.ntmps51
   try go_wp2_with (first|((with_reducible refine gd_ 2 rfl ?_);refine bv_ 2 #[.int .i64 a0_0,.int .i64 a0_1,.int .i64 a0_2] 28 ?_;intro gb551 hg w14 hbox hb;have B551:=am_ (hbox);have GW551:=gw_ HB hg;have GE551:=gw_ HB hg;replace HB:=am_ (below_step (be_ HB) hb);clear hb hbox hg))
   replace B551:=bd_ B551;replace HB:=be1_ HB;refine start_ (n:=15) (S:=fun w'=>cc3_ w' gb551 (.int .i64 a0_0) (.int .i64 a0_1) (.int .i64 a0_2)) (ds:=[]) (bs 15 0) (by kernel_rfl) rfl rfl (bo3_ B551) (fun hH=>?_);refine with_tabW impl_Narrow.tab1 impl_Narrow.bits1 (fun HT_ HW_=>?_);generalize w14.drew=w15 at B551 HB hH ⊢;refine tkn_ HT_ HW_ hH ?_;refine on_ 1 (some 6) (bs 15 2) HT_ (fun K hK=>?_);refine gz_ Try.func80 (impl_TagOk.calls a0_0 a0_1 a0_2 true _ A3.out) ?_;rintro e w16 ⟨rfl,hb⟩;refine⟨_,rfl,?_⟩;replace B551:=bb_ B551 hb;replace HB:=sb_ HB hb;(try clear hb);refine hK.out _ _ (bo3_ B551) (fun hH=>?_);clear hK K;refine norm_ (a':=?_) ?_ ?_;rotate_left
   ·show Act.put _ (some 6) _=_;simp only [Act.put,ls0_,ls1_,ls2_,i64_w,i32_w];rfl
   (iterate 2 (refine psn_ HT_ ?_));refine on_ 4 (some 9) (bs 15 5) HT_ (fun K hK=>?_);refine gz_ Try.func81 (impl_isDelta.calls a1 false _ A5.out) ?_;rintro e w' ⟨rfl,⟨nd,rfl⟩⟩;refine⟨_,rfl,?_⟩;refine hK.out _ _ (bo3_ B551) (fun hH=>?_);clear hK K;refine norm_ (a':=?_) ?_ ?_;rotate_left
   ·show Act.put _ (some 9) _=_;simp only [Act.put,ls0_,ls1_,ls2_,i64_w,i32_w];rfl
   (iterate 2 (refine psn_ HT_ ?_));(iterate 6 (refine pun_ HT_ ?_));(iterate 2 (refine psn_ HT_ ?_));refine done_ (done_of HT_.out (by kernel_rfl)) ?_
   try go_wp2
   go_ret;exact⟨er_,bf_ HB⟩
 ·replace c4:=Bool.eq_false_iff.mpr c4;subst c4;rw [if_neg (show ¬ (false=true) by decide)]at H;obtain rfl:=Option.some.inj H
  go_enter Try.func51,Try.ntmps51
  try go_wp2_with (first|((with_reducible refine gd_ 2 rfl ?_);refine bv_ 2 #[.int .i64 a0_0,.int .i64 a0_1,.int .i64 a0_2] 28 ?_;intro gb551 hg w17 hbox hb;have B551:=am_ (hbox);have GW551:=gw_ HB hg;have GE551:=gw_ HB hg;replace HB:=am_ (below_step (be_ HB) hb);clear hb hbox hg))
  replace B551:=bd_ B551;replace HB:=be1_ HB;refine start_ (n:=15) (S:=fun w'=>cc3_ w' gb551 (.int .i64 a0_0) (.int .i64 a0_1) (.int .i64 a0_2)) (ds:=[]) (bs 15 0) (by kernel_rfl) rfl rfl (bo3_ B551) (fun hH=>?_);refine with_tabW impl_Narrow.tab1 impl_Narrow.bits1 (fun HT_ HW_=>?_);generalize w17.drew=w18 at B551 HB hH ⊢;refine tkn_ HT_ HW_ hH ?_;refine on_ 1 (some 6) (bs 15 2) HT_ (fun K hK=>?_);refine gz_ Try.func80 (impl_TagOk.calls a0_0 a0_1 a0_2 false _ A3.out) ?_;rintro e w19 ⟨rfl,hb⟩;refine⟨_,rfl,?_⟩;replace B551:=bb_ B551 hb;replace HB:=sb_ HB hb;(try clear hb);refine hK.out _ _ (bo3_ B551) (fun hH=>?_);clear hK K;refine norm_ (a':=?_) ?_ ?_;rotate_left
  ·show Act.put _ (some 6) _=_;simp only [Act.put,ls0_,ls1_,ls2_,i64_w,i32_w];rfl
  refine psn_ HT_ ?_;(iterate 2 (refine pun_ HT_ ?_));(iterate 2 (refine psn_ HT_ ?_));(iterate 6 (refine pun_ HT_ ?_));(iterate 2 (refine psn_ HT_ ?_));refine done_ (done_of HT_.out (by kernel_rfl)) ?_
  try go_wp2
  go_ret;exact⟨er_,bf_ HB⟩

/-! ### impl_isFlow: function 44 -/
def impl_isFlow.f (a0:Int):Option (Bool):=(impl_within.f a0 0 9999).bind fun t556=>(some t556)
set_option maxHeartbeats 8000000 in
set_option maxRecDepth 100000 in
theorem impl_isFlow.calls (a0:Int) (r:Bool) (w:World) (h:impl_isFlow.f a0=some r) :
  Calls Try.prog 44 #[.int .i64 a0] w fun e w'=>e=.returned (.bool r)∧Drawn0 w w':=by
 have H:=h;clear h;unfold impl_isFlow.f at H;replace H:=bm1_ H;obtain⟨t556,A2,H⟩:=H;obtain rfl:=Option.some.inj H
 go_enter Try.func44,Try.ntmps44
 go_wp2_with (first|((with_reducible refine gc_ 71 rfl ?_);refine gk_ 4 Try.func71 (impl_within.calls a0 0 9999 t556 _ A2.out) ?_;rintro e w' ⟨rfl,⟨nd,rfl⟩⟩;refine⟨_,rfl,?_⟩));go_ret;exact⟨by first|rfl|(simp;done)|(simp [*];done),by repeat (first|exact Drawn0.refl _|apply Drawn0.step)⟩

/-! ### impl_isWeight: function 45 -/
def impl_isWeight.f (a0:Int):Option (Bool):=(impl_within.f a0 1 10).bind fun t557=>(some t557)
set_option maxHeartbeats 8000000 in
set_option maxRecDepth 100000 in
theorem impl_isWeight.calls (a0:Int) (r:Bool) (w:World) (h:impl_isWeight.f a0=some r) :
  Calls Try.prog 45 #[.int .i64 a0] w fun e w'=>e=.returned (.bool r)∧Drawn0 w w':=by
 have H:=h;clear h;unfold impl_isWeight.f at H;replace H:=bm1_ H;obtain⟨t557,A2,H⟩:=H;obtain rfl:=Option.some.inj H
 go_enter Try.func45,Try.ntmps45
 go_wp2_with (first|((with_reducible refine gc_ 71 rfl ?_);refine gk_ 4 Try.func71 (impl_within.calls a0 1 10 t557 _ A2.out) ?_;rintro e w' ⟨rfl,⟨nd,rfl⟩⟩;refine⟨_,rfl,?_⟩));go_ret;exact⟨by first|rfl|(simp;done)|(simp [*];done),by repeat (first|exact Drawn0.refl _|apply Drawn0.step)⟩

/-! ### impl_Stride: function 83 -/
def impl_Stride.f (a0:Int):Option (Int):=(impl_isWeight.f a0).bind fun t558=>(if t558=true then(if a0=0 then(none) else(some (wrap64 ((2520:Int) / a0)))) else(some 0))
set_option maxHeartbeats 8000000 in
set_option maxRecDepth 100000 in
theorem impl_Stride.calls (a0:Int) (r:Int) (w:World) (h:impl_Stride.f a0=some r) :
  Calls Try.prog 83 #[.int .i64 a0] w fun e w'=>e=.returned (.int .i64 r)∧Drawn0 w w':=by
 have H:=h;clear h;unfold impl_Stride.f at H;replace H:=bm1_ H;obtain⟨t558,A2,H⟩:=H
 by_cases c3:t558=true
 ·subst c3;rw [if_pos rfl]at H
  by_cases c4:a0=0
  ·rw [if_pos c4]at H;exact absurd H (by simp)
  ·rw [if_neg c4]at H;have c4b0:(a0 == 0)=false:=beq_eq_false_iff_ne.mpr c4;have c4b1:(a0 != 0)=true:=bne_iff_ne.mpr c4;obtain rfl:=Option.some.inj H
   go_enter Try.func83,Try.ntmps83
   go_wp2_with (first|((with_reducible refine gc_ 45 rfl ?_);refine gk_ 4 Try.func45 (impl_isWeight.calls a0 true _ A2.out) ?_;rintro e w' ⟨rfl,⟨nd,rfl⟩⟩;refine⟨_,rfl,?_⟩));go_ret;exact⟨by first|rfl|(simp;rw [Int.tdiv_eq_ediv_of_nonneg]<;>first|decide|omega)|(simp;done)|(simp [*];done),by repeat (first|exact Drawn0.refl _|apply Drawn0.step)⟩
 ·replace c3:=Bool.eq_false_iff.mpr c3;subst c3;rw [if_neg (show ¬ (false=true) by decide)]at H;obtain rfl:=Option.some.inj H
  go_enter Try.func83,Try.ntmps83
  go_wp2_with (first|((with_reducible refine gc_ 45 rfl ?_);refine gk_ 4 Try.func45 (impl_isWeight.calls a0 false _ A2.out) ?_;rintro e w' ⟨rfl,⟨nd,rfl⟩⟩;refine⟨_,rfl,?_⟩));go_ret;exact⟨by first|rfl|(simp;rw [Int.tdiv_eq_ediv_of_nonneg]<;>first|decide|omega)|(simp;done)|(simp [*];done),by repeat (first|exact Drawn0.refl _|apply Drawn0.step)⟩

/-! ### impl_Fair_kidOk: function 53 -/
def impl_Fair_kidOk.f (a0_0:Int) (a0_1:Int) (a0_2:Int) (a0_3:Int) (l0_4:List (S46)) (a1_0:Int) (a1_1:Int) (a1_2:Bool) (a1_3:Int) (a1_4:Int) (a1_5:Int):Option (Bool):=(impl_VecTop.f a0_1 a0_2 a0_3).bind fun t561=>((impl_VecTop.f a1_3 a1_4 a1_5).bind fun t562=>((impl_isFlow.f a1_0).bind fun t563=>(if t563=true then((impl_isWeight.f a1_1).bind fun t564=>(if t564=true then((impl_Narrow.f a1_3 a1_4 a1_5 a0_0).bind fun t565=>(if t565=true then((impl_Stride.f a1_1).bind fun t566=>(if t562≤(wrap64 (t561+(wrap64 (t566 * 2000)))) then(if a1_2=true then(some (decide (t562 ≥ t561))) else(some true)) else(some false))) else(some false))) else(some false))) else(some false))))
def impl_Fair_kidOk.T1:Bool × List (List Nat × List Nat):=(true,[([],[]),([0],[0]),([1],[1]),([],[]),([3],[3]),([4,2],[4]),([2,5,0,1,2],[2]),([5,6,0,1,2,3,4,5,6],[5])])
def impl_Fair_kidOk.B1:List Nat:=[0,1,3,0,8,31,63,127]
theorem impl_Fair_kidOk.tab1:rtab .any (opsOf Try.f53 1)=impl_Fair_kidOk.T1:=by kernel_rfl
theorem impl_Fair_kidOk.bits1:waitsOk impl_Fair_kidOk.T1.2 impl_Fair_kidOk.B1=true:=by kernel_rfl
set_option maxHeartbeats 8000000 in
set_option maxRecDepth 100000 in
theorem impl_Fair_kidOk.calls (a0_0:Int) (a0_1:Int) (a0_2:Int) (a0_3:Int) (A0_4:Option Addr) (c0_4:Nat) (l0_4:List (S46)) (a1_0:Int) (a1_1:Int) (a1_2:Bool) (a1_3:Int) (a1_4:Int) (a1_5:Int) (r:Bool) (w:World) (hr0_4:Kd.C k46 w A0_4 l0_4.length l0_4) (hc0_4:l0_4.length≤c0_4) (h:impl_Fair_kidOk.f a0_0 a0_1 a0_2 a0_3 l0_4 a1_0 a1_1 a1_2 a1_3 a1_4 a1_5=some r) :
  Calls Try.prog 53 #[.agg #[.int .i64 a0_0,.int .i64 a0_1,.int .i64 a0_2,.int .i64 a0_3,.slice A0_4 l0_4.length c0_4],.agg #[.int .i64 a1_0,.int .i64 a1_1,.bool a1_2,.int .i64 a1_3,.int .i64 a1_4,.int .i64 a1_5]] w fun e w'=>e=.returned (.bool r)∧Below w.heap.size w w':=by
 have hu31:=Try.underlying31;have hu46:=Try.underlying46;have hu28:=Try.underlying28;have HR0_4:=am_ hr0_4;have HC0_4:=am_ hc0_4;clear hr0_4 hc0_4;have HB:=am_ (Below.refl w.heap.size w);have H:=h;clear h;unfold impl_Fair_kidOk.f at H;replace H:=bm1_ H;obtain⟨t561,A3,H⟩:=H;replace H:=bm1_ H;obtain⟨t562,A4,H⟩:=H;replace H:=bm1_ H;obtain⟨t563,A5,H⟩:=H
 by_cases c6:t563=true
 ·subst c6;rw [if_pos rfl]at H;replace H:=bm1_ H;obtain⟨t564,A7,H⟩:=H
  by_cases c8:t564=true
  ·subst c8;rw [if_pos rfl]at H;replace H:=bm1_ H;obtain⟨t565,A9,H⟩:=H
   by_cases c10:t565=true
   ·subst c10;rw [if_pos rfl]at H;replace H:=bm1_ H;obtain⟨t566,A11,H⟩:=H
    by_cases c12:t562≤(wrap64 (t561+(wrap64 (t566 * 2000))))
    ·rw [if_pos c12]at H;have c12b0:decide (t562≤(wrap64 (t561+(wrap64 (t566 * 2000)))))=true:=decide_eq_true c12;clear c12
     by_cases c13:a1_2=true
     ·subst c13;rw [if_pos rfl]at H;obtain rfl:=Option.some.inj H
      go_enter Try.func53,Try.ntmps53
      try go_wp2_with (first|((with_reducible refine gd_ 2 rfl ?_);refine bv_ 2 #[.int .i64 a0_0,.int .i64 a0_1,.int .i64 a0_2,.int .i64 a0_3,.slice A0_4 l0_4.length c0_4] 31 ?_;intro gb559 hg w14 hbox hb;have B559:=am_ (hbox);have GW559:=gw_ HB hg;have GE559:=gw_ HB hg;replace HB:=am_ (below_step (be_ HB) hb);clear hb hbox hg)|((with_reducible refine gd_ 3 rfl ?_);refine bv_ 3 #[.int .i64 a1_0,.int .i64 a1_1,.bool true,.int .i64 a1_3,.int .i64 a1_4,.int .i64 a1_5] 46 ?_;intro gb560 hg w15 hbox hb;have B560:=am_ (hbox);have GW560:=gw_ HB hg;have GE560:=gw_ HB hg;replace HB:=sb_ HB hb;have D559_560:=nl_ B559 hg;have D560_559:=ng_ B559 hg;replace B559:=bb_ B559 hb;clear hb hbox hg))
      replace B559:=bd_ B559;replace B560:=bd_ B560;replace HB:=be1_ HB;refine start_ (n:=8) (S:=fun w'=>cb5_ w' gb559 (.int .i64 a0_0) (.int .i64 a0_1) (.int .i64 a0_2) (.int .i64 a0_3) (.slice A0_4 l0_4.length c0_4) (cc6_ w' gb560 (.int .i64 a1_0) (.int .i64 a1_1) (.bool true) (.int .i64 a1_3) (.int .i64 a1_4) (.int .i64 a1_5))) (ds:=[]) (bs 8 0) (by kernel_rfl) rfl rfl (bs5_ B559 (bo6_ B560)) (fun hH=>?_);refine with_tabW impl_Fair_kidOk.tab1 impl_Fair_kidOk.bits1 (fun HT_ HW_=>?_);generalize w15.drew=w16 at B559 B560 HB hH ⊢;refine psn_ HT_ ?_;refine ps_ 3 10 (bm 8 9) HT_ ?_;refine tk_ 1 8 (bm 8 11) HT_ HW_ hH ?_;refine tk_ 4 11 (bm 8 27) HT_ HW_ hH ?_;refine on_ 2 (some 9) (bs 8 5) HT_ (fun K hK=>?_);refine gz_ Try.func52 (impl_VecTop.calls a0_1 a0_2 a0_3 t561 _ A3.out) ?_;rintro e w17 ⟨rfl,hb⟩;refine⟨_,rfl,?_⟩;replace B559:=bb_ B559 hb;replace B560:=bb_ B560 hb;replace HB:=sb_ HB hb;(try clear hb);refine hK.out _ _ (bs5_ B559 (bo6_ B560)) (fun hH=>?_);clear hK K;refine norm_ (a':=?_) ?_ ?_;rotate_left
      ·show Act.put _ (some 9) _=_;simp only [Act.put,ls0_,ls1_,ls2_,i64_w,i32_w];rfl
      refine on_ 5 (some 12) (bs 8 6) HT_ (fun K hK=>?_);refine gz_ Try.func52 (impl_VecTop.calls a1_3 a1_4 a1_5 t562 _ A4.out) ?_;rintro e w18 ⟨rfl,hb⟩;refine⟨_,rfl,?_⟩;replace B559:=bb_ B559 hb;replace B560:=bb_ B560 hb;replace HB:=sb_ HB hb;(try clear hb);refine hK.out _ _ (bs5_ B559 (bo6_ B560)) (fun hH=>?_);clear hK K;refine norm_ (a':=?_) ?_ ?_;rotate_left
      ·show Act.put _ (some 12) _=_;simp only [Act.put,ls0_,ls1_,ls2_,i64_w,i32_w];rfl
      (iterate 2 (refine psn_ HT_ ?_));refine done_ (done_of HT_.out (by kernel_rfl)) ?_;obtain⟨hnb19,hnc19⟩:=nn_ D560_559;obtain⟨Z20_0,Z20_1,Z20_2,Z20_3,Z20_4,Z20_5,F20_0,F20_1,F20_2,F20_3,F20_4,F20_5⟩:=bz6_ B560
      try go_wp2_with (first|((with_reducible refine gc_ 44 rfl ?_);refine gk_ 15 Try.func44 (impl_isFlow.calls a1_0 true _ A5.out) ?_;rintro e w' ⟨rfl,⟨nd,rfl⟩⟩;refine⟨_,rfl,?_⟩)|(go_at_call 45;(with_reducible refine(impl_isWeight.calls a1_1 true _ A7.out).mono ?_);rintro e w' ⟨rfl,⟨nd,rfl⟩⟩;obtain⟨Z21_0,Z21_1,Z21_2,Z21_3,Z21_4,F21_0,F21_1,F21_2,F21_3,F21_4⟩:=bz5_ B559)|(go_at_call 51;(with_reducible refine(impl_Narrow.calls a1_3 a1_4 a1_5 a0_0 true _ A9.out).mono ?_);rintro e w22 ⟨rfl,hb⟩;replace B559:=bb_ B559 hb;replace B560:=bb_ B560 hb;replace HB:=sb_ HB hb;clear hb;obtain⟨Z23_0,Z23_1,Z23_2,Z23_3,Z23_4,Z23_5,F23_0,F23_1,F23_2,F23_3,F23_4,F23_5⟩:=bz6_ B560)|((with_reducible refine gc_ 83 rfl ?_);refine gk_ 35 Try.func83 (impl_Stride.calls a1_1 t566 _ A11.out) ?_;rintro e w' ⟨rfl,⟨nd,rfl⟩⟩;refine⟨_,rfl,?_⟩))
      go_ret;exact⟨er_,bf_ HB⟩
     ·replace c13:=Bool.eq_false_iff.mpr c13;subst c13;rw [if_neg (show ¬ (false=true) by decide)]at H;obtain rfl:=Option.some.inj H
      go_enter Try.func53,Try.ntmps53
      try go_wp2_with (first|((with_reducible refine gd_ 2 rfl ?_);refine bv_ 2 #[.int .i64 a0_0,.int .i64 a0_1,.int .i64 a0_2,.int .i64 a0_3,.slice A0_4 l0_4.length c0_4] 31 ?_;intro gb559 hg w24 hbox hb;have B559:=am_ (hbox);have GW559:=gw_ HB hg;have GE559:=gw_ HB hg;replace HB:=am_ (below_step (be_ HB) hb);clear hb hbox hg)|((with_reducible refine gd_ 3 rfl ?_);refine bv_ 3 #[.int .i64 a1_0,.int .i64 a1_1,.bool false,.int .i64 a1_3,.int .i64 a1_4,.int .i64 a1_5] 46 ?_;intro gb560 hg w25 hbox hb;have B560:=am_ (hbox);have GW560:=gw_ HB hg;have GE560:=gw_ HB hg;replace HB:=sb_ HB hb;have D559_560:=nl_ B559 hg;have D560_559:=ng_ B559 hg;replace B559:=bb_ B559 hb;clear hb hbox hg))
      replace B559:=bd_ B559;replace B560:=bd_ B560;replace HB:=be1_ HB;refine start_ (n:=8) (S:=fun w'=>cb5_ w' gb559 (.int .i64 a0_0) (.int .i64 a0_1) (.int .i64 a0_2) (.int .i64 a0_3) (.slice A0_4 l0_4.length c0_4) (cc6_ w' gb560 (.int .i64 a1_0) (.int .i64 a1_1) (.bool false) (.int .i64 a1_3) (.int .i64 a1_4) (.int .i64 a1_5))) (ds:=[]) (bs 8 0) (by kernel_rfl) rfl rfl (bs5_ B559 (bo6_ B560)) (fun hH=>?_);refine with_tabW impl_Fair_kidOk.tab1 impl_Fair_kidOk.bits1 (fun HT_ HW_=>?_);generalize w25.drew=w26 at B559 B560 HB hH ⊢;refine psn_ HT_ ?_;refine ps_ 3 10 (bm 8 9) HT_ ?_;refine tk_ 1 8 (bm 8 11) HT_ HW_ hH ?_;refine tk_ 4 11 (bm 8 27) HT_ HW_ hH ?_;refine on_ 2 (some 9) (bs 8 5) HT_ (fun K hK=>?_);refine gz_ Try.func52 (impl_VecTop.calls a0_1 a0_2 a0_3 t561 _ A3.out) ?_;rintro e w27 ⟨rfl,hb⟩;refine⟨_,rfl,?_⟩;replace B559:=bb_ B559 hb;replace B560:=bb_ B560 hb;replace HB:=sb_ HB hb;(try clear hb);refine hK.out _ _ (bs5_ B559 (bo6_ B560)) (fun hH=>?_);clear hK K;refine norm_ (a':=?_) ?_ ?_;rotate_left
      ·show Act.put _ (some 9) _=_;simp only [Act.put,ls0_,ls1_,ls2_,i64_w,i32_w];rfl
      refine on_ 5 (some 12) (bs 8 6) HT_ (fun K hK=>?_);refine gz_ Try.func52 (impl_VecTop.calls a1_3 a1_4 a1_5 t562 _ A4.out) ?_;rintro e w28 ⟨rfl,hb⟩;refine⟨_,rfl,?_⟩;replace B559:=bb_ B559 hb;replace B560:=bb_ B560 hb;replace HB:=sb_ HB hb;(try clear hb);refine hK.out _ _ (bs5_ B559 (bo6_ B560)) (fun hH=>?_);clear hK K;refine norm_ (a':=?_) ?_ ?_;rotate_left
      ·show Act.put _ (some 12) _=_;simp only [Act.put,ls0_,ls1_,ls2_,i64_w,i32_w];rfl
      (iterate 2 (refine psn_ HT_ ?_));refine done_ (done_of HT_.out (by kernel_rfl)) ?_;obtain⟨hnb29,hnc29⟩:=nn_ D560_559;obtain⟨Z30_0,Z30_1,Z30_2,Z30_3,Z30_4,Z30_5,F30_0,F30_1,F30_2,F30_3,F30_4,F30_5⟩:=bz6_ B560
      try go_wp2_with (first|((with_reducible refine gc_ 44 rfl ?_);refine gk_ 15 Try.func44 (impl_isFlow.calls a1_0 true _ A5.out) ?_;rintro e w' ⟨rfl,⟨nd,rfl⟩⟩;refine⟨_,rfl,?_⟩)|(go_at_call 45;(with_reducible refine(impl_isWeight.calls a1_1 true _ A7.out).mono ?_);rintro e w' ⟨rfl,⟨nd,rfl⟩⟩;obtain⟨Z31_0,Z31_1,Z31_2,Z31_3,Z31_4,F31_0,F31_1,F31_2,F31_3,F31_4⟩:=bz5_ B559)|(go_at_call 51;(with_reducible refine(impl_Narrow.calls a1_3 a1_4 a1_5 a0_0 true _ A9.out).mono ?_);rintro e w32 ⟨rfl,hb⟩;replace B559:=bb_ B559 hb;replace B560:=bb_ B560 hb;replace HB:=sb_ HB hb;clear hb;obtain⟨Z33_0,Z33_1,Z33_2,Z33_3,Z33_4,Z33_5,F33_0,F33_1,F33_2,F33_3,F33_4,F33_5⟩:=bz6_ B560)|((with_reducible refine gc_ 83 rfl ?_);refine gk_ 35 Try.func83 (impl_Stride.calls a1_1 t566 _ A11.out) ?_;rintro e w' ⟨rfl,⟨nd,rfl⟩⟩;refine⟨_,rfl,?_⟩))
      go_ret;exact⟨er_,bf_ HB⟩
    ·rw [if_neg c12]at H;have c12b0:decide (t562≤(wrap64 (t561+(wrap64 (t566 * 2000)))))=false:=decide_eq_false c12;clear c12;obtain rfl:=Option.some.inj H
     go_enter Try.func53,Try.ntmps53
     try go_wp2_with (first|((with_reducible refine gd_ 2 rfl ?_);refine bv_ 2 #[.int .i64 a0_0,.int .i64 a0_1,.int .i64 a0_2,.int .i64 a0_3,.slice A0_4 l0_4.length c0_4] 31 ?_;intro gb559 hg w34 hbox hb;have B559:=am_ (hbox);have GW559:=gw_ HB hg;have GE559:=gw_ HB hg;replace HB:=am_ (below_step (be_ HB) hb);clear hb hbox hg)|((with_reducible refine gd_ 3 rfl ?_);refine bv_ 3 #[.int .i64 a1_0,.int .i64 a1_1,.bool a1_2,.int .i64 a1_3,.int .i64 a1_4,.int .i64 a1_5] 46 ?_;intro gb560 hg w35 hbox hb;have B560:=am_ (hbox);have GW560:=gw_ HB hg;have GE560:=gw_ HB hg;replace HB:=sb_ HB hb;have D559_560:=nl_ B559 hg;have D560_559:=ng_ B559 hg;replace B559:=bb_ B559 hb;clear hb hbox hg))
     replace B559:=bd_ B559;replace B560:=bd_ B560;replace HB:=be1_ HB;refine start_ (n:=8) (S:=fun w'=>cb5_ w' gb559 (.int .i64 a0_0) (.int .i64 a0_1) (.int .i64 a0_2) (.int .i64 a0_3) (.slice A0_4 l0_4.length c0_4) (cc6_ w' gb560 (.int .i64 a1_0) (.int .i64 a1_1) (.bool a1_2) (.int .i64 a1_3) (.int .i64 a1_4) (.int .i64 a1_5))) (ds:=[]) (bs 8 0) (by kernel_rfl) rfl rfl (bs5_ B559 (bo6_ B560)) (fun hH=>?_);refine with_tabW impl_Fair_kidOk.tab1 impl_Fair_kidOk.bits1 (fun HT_ HW_=>?_);generalize w35.drew=w36 at B559 B560 HB hH ⊢;refine psn_ HT_ ?_;refine ps_ 3 10 (bm 8 9) HT_ ?_;refine tk_ 1 8 (bm 8 11) HT_ HW_ hH ?_;refine tk_ 4 11 (bm 8 27) HT_ HW_ hH ?_;refine on_ 2 (some 9) (bs 8 5) HT_ (fun K hK=>?_);refine gz_ Try.func52 (impl_VecTop.calls a0_1 a0_2 a0_3 t561 _ A3.out) ?_;rintro e w37 ⟨rfl,hb⟩;refine⟨_,rfl,?_⟩;replace B559:=bb_ B559 hb;replace B560:=bb_ B560 hb;replace HB:=sb_ HB hb;(try clear hb);refine hK.out _ _ (bs5_ B559 (bo6_ B560)) (fun hH=>?_);clear hK K;refine norm_ (a':=?_) ?_ ?_;rotate_left
     ·show Act.put _ (some 9) _=_;simp only [Act.put,ls0_,ls1_,ls2_,i64_w,i32_w];rfl
     refine on_ 5 (some 12) (bs 8 6) HT_ (fun K hK=>?_);refine gz_ Try.func52 (impl_VecTop.calls a1_3 a1_4 a1_5 t562 _ A4.out) ?_;rintro e w38 ⟨rfl,hb⟩;refine⟨_,rfl,?_⟩;replace B559:=bb_ B559 hb;replace B560:=bb_ B560 hb;replace HB:=sb_ HB hb;(try clear hb);refine hK.out _ _ (bs5_ B559 (bo6_ B560)) (fun hH=>?_);clear hK K;refine norm_ (a':=?_) ?_ ?_;rotate_left
     ·show Act.put _ (some 12) _=_;simp only [Act.put,ls0_,ls1_,ls2_,i64_w,i32_w];rfl
     (iterate 2 (refine psn_ HT_ ?_));refine done_ (done_of HT_.out (by kernel_rfl)) ?_;obtain⟨hnb39,hnc39⟩:=nn_ D560_559;obtain⟨Z40_0,Z40_1,Z40_2,Z40_3,Z40_4,Z40_5,F40_0,F40_1,F40_2,F40_3,F40_4,F40_5⟩:=bz6_ B560
     try go_wp2_with (first|((with_reducible refine gc_ 44 rfl ?_);refine gk_ 15 Try.func44 (impl_isFlow.calls a1_0 true _ A5.out) ?_;rintro e w' ⟨rfl,⟨nd,rfl⟩⟩;refine⟨_,rfl,?_⟩)|(go_at_call 45;(with_reducible refine(impl_isWeight.calls a1_1 true _ A7.out).mono ?_);rintro e w' ⟨rfl,⟨nd,rfl⟩⟩;obtain⟨Z41_0,Z41_1,Z41_2,Z41_3,Z41_4,F41_0,F41_1,F41_2,F41_3,F41_4⟩:=bz5_ B559)|(go_at_call 51;(with_reducible refine(impl_Narrow.calls a1_3 a1_4 a1_5 a0_0 true _ A9.out).mono ?_);rintro e w42 ⟨rfl,hb⟩;replace B559:=bb_ B559 hb;replace B560:=bb_ B560 hb;replace HB:=sb_ HB hb;clear hb;obtain⟨Z43_0,Z43_1,Z43_2,Z43_3,Z43_4,Z43_5,F43_0,F43_1,F43_2,F43_3,F43_4,F43_5⟩:=bz6_ B560)|((with_reducible refine gc_ 83 rfl ?_);refine gk_ 35 Try.func83 (impl_Stride.calls a1_1 t566 _ A11.out) ?_;rintro e w' ⟨rfl,⟨nd,rfl⟩⟩;refine⟨_,rfl,?_⟩))
     go_ret;exact⟨er_,bf_ HB⟩
   ·replace c10:=Bool.eq_false_iff.mpr c10;subst c10;rw [if_neg (show ¬ (false=true) by decide)]at H;obtain rfl:=Option.some.inj H
    go_enter Try.func53,Try.ntmps53
    try go_wp2_with (first|((with_reducible refine gd_ 2 rfl ?_);refine bv_ 2 #[.int .i64 a0_0,.int .i64 a0_1,.int .i64 a0_2,.int .i64 a0_3,.slice A0_4 l0_4.length c0_4] 31 ?_;intro gb559 hg w44 hbox hb;have B559:=am_ (hbox);have GW559:=gw_ HB hg;have GE559:=gw_ HB hg;replace HB:=am_ (below_step (be_ HB) hb);clear hb hbox hg)|((with_reducible refine gd_ 3 rfl ?_);refine bv_ 3 #[.int .i64 a1_0,.int .i64 a1_1,.bool a1_2,.int .i64 a1_3,.int .i64 a1_4,.int .i64 a1_5] 46 ?_;intro gb560 hg w45 hbox hb;have B560:=am_ (hbox);have GW560:=gw_ HB hg;have GE560:=gw_ HB hg;replace HB:=sb_ HB hb;have D559_560:=nl_ B559 hg;have D560_559:=ng_ B559 hg;replace B559:=bb_ B559 hb;clear hb hbox hg))
    replace B559:=bd_ B559;replace B560:=bd_ B560;replace HB:=be1_ HB;refine start_ (n:=8) (S:=fun w'=>cb5_ w' gb559 (.int .i64 a0_0) (.int .i64 a0_1) (.int .i64 a0_2) (.int .i64 a0_3) (.slice A0_4 l0_4.length c0_4) (cc6_ w' gb560 (.int .i64 a1_0) (.int .i64 a1_1) (.bool a1_2) (.int .i64 a1_3) (.int .i64 a1_4) (.int .i64 a1_5))) (ds:=[]) (bs 8 0) (by kernel_rfl) rfl rfl (bs5_ B559 (bo6_ B560)) (fun hH=>?_);refine with_tabW impl_Fair_kidOk.tab1 impl_Fair_kidOk.bits1 (fun HT_ HW_=>?_);generalize w45.drew=w46 at B559 B560 HB hH ⊢;refine psn_ HT_ ?_;refine ps_ 3 10 (bm 8 9) HT_ ?_;refine tk_ 1 8 (bm 8 11) HT_ HW_ hH ?_;refine tk_ 4 11 (bm 8 27) HT_ HW_ hH ?_;refine on_ 2 (some 9) (bs 8 5) HT_ (fun K hK=>?_);refine gz_ Try.func52 (impl_VecTop.calls a0_1 a0_2 a0_3 t561 _ A3.out) ?_;rintro e w47 ⟨rfl,hb⟩;refine⟨_,rfl,?_⟩;replace B559:=bb_ B559 hb;replace B560:=bb_ B560 hb;replace HB:=sb_ HB hb;(try clear hb);refine hK.out _ _ (bs5_ B559 (bo6_ B560)) (fun hH=>?_);clear hK K;refine norm_ (a':=?_) ?_ ?_;rotate_left
    ·show Act.put _ (some 9) _=_;simp only [Act.put,ls0_,ls1_,ls2_,i64_w,i32_w];rfl
    refine on_ 5 (some 12) (bs 8 6) HT_ (fun K hK=>?_);refine gz_ Try.func52 (impl_VecTop.calls a1_3 a1_4 a1_5 t562 _ A4.out) ?_;rintro e w48 ⟨rfl,hb⟩;refine⟨_,rfl,?_⟩;replace B559:=bb_ B559 hb;replace B560:=bb_ B560 hb;replace HB:=sb_ HB hb;(try clear hb);refine hK.out _ _ (bs5_ B559 (bo6_ B560)) (fun hH=>?_);clear hK K;refine norm_ (a':=?_) ?_ ?_;rotate_left
    ·show Act.put _ (some 12) _=_;simp only [Act.put,ls0_,ls1_,ls2_,i64_w,i32_w];rfl
    (iterate 2 (refine psn_ HT_ ?_));refine done_ (done_of HT_.out (by kernel_rfl)) ?_;obtain⟨hnb49,hnc49⟩:=nn_ D560_559;obtain⟨Z50_0,Z50_1,Z50_2,Z50_3,Z50_4,Z50_5,F50_0,F50_1,F50_2,F50_3,F50_4,F50_5⟩:=bz6_ B560
    try go_wp2_with (first|((with_reducible refine gc_ 44 rfl ?_);refine gk_ 15 Try.func44 (impl_isFlow.calls a1_0 true _ A5.out) ?_;rintro e w' ⟨rfl,⟨nd,rfl⟩⟩;refine⟨_,rfl,?_⟩)|(go_at_call 45;(with_reducible refine(impl_isWeight.calls a1_1 true _ A7.out).mono ?_);rintro e w' ⟨rfl,⟨nd,rfl⟩⟩;obtain⟨Z51_0,Z51_1,Z51_2,Z51_3,Z51_4,F51_0,F51_1,F51_2,F51_3,F51_4⟩:=bz5_ B559)|(go_at_call 51;(with_reducible refine(impl_Narrow.calls a1_3 a1_4 a1_5 a0_0 false _ A9.out).mono ?_);rintro e w52 ⟨rfl,hb⟩;replace B559:=bb_ B559 hb;replace B560:=bb_ B560 hb;replace HB:=sb_ HB hb;clear hb))
    go_ret;exact⟨er_,bf_ HB⟩
  ·replace c8:=Bool.eq_false_iff.mpr c8;subst c8;rw [if_neg (show ¬ (false=true) by decide)]at H;obtain rfl:=Option.some.inj H
   go_enter Try.func53,Try.ntmps53
   try go_wp2_with (first|((with_reducible refine gd_ 2 rfl ?_);refine bv_ 2 #[.int .i64 a0_0,.int .i64 a0_1,.int .i64 a0_2,.int .i64 a0_3,.slice A0_4 l0_4.length c0_4] 31 ?_;intro gb559 hg w53 hbox hb;have B559:=am_ (hbox);have GW559:=gw_ HB hg;have GE559:=gw_ HB hg;replace HB:=am_ (below_step (be_ HB) hb);clear hb hbox hg)|((with_reducible refine gd_ 3 rfl ?_);refine bv_ 3 #[.int .i64 a1_0,.int .i64 a1_1,.bool a1_2,.int .i64 a1_3,.int .i64 a1_4,.int .i64 a1_5] 46 ?_;intro gb560 hg w54 hbox hb;have B560:=am_ (hbox);have GW560:=gw_ HB hg;have GE560:=gw_ HB hg;replace HB:=sb_ HB hb;have D559_560:=nl_ B559 hg;have D560_559:=ng_ B559 hg;replace B559:=bb_ B559 hb;clear hb hbox hg))
   replace B559:=bd_ B559;replace B560:=bd_ B560;replace HB:=be1_ HB;refine start_ (n:=8) (S:=fun w'=>cb5_ w' gb559 (.int .i64 a0_0) (.int .i64 a0_1) (.int .i64 a0_2) (.int .i64 a0_3) (.slice A0_4 l0_4.length c0_4) (cc6_ w' gb560 (.int .i64 a1_0) (.int .i64 a1_1) (.bool a1_2) (.int .i64 a1_3) (.int .i64 a1_4) (.int .i64 a1_5))) (ds:=[]) (bs 8 0) (by kernel_rfl) rfl rfl (bs5_ B559 (bo6_ B560)) (fun hH=>?_);refine with_tabW impl_Fair_kidOk.tab1 impl_Fair_kidOk.bits1 (fun HT_ HW_=>?_);generalize w54.drew=w55 at B559 B560 HB hH ⊢;refine psn_ HT_ ?_;refine ps_ 3 10 (bm 8 9) HT_ ?_;refine tk_ 1 8 (bm 8 11) HT_ HW_ hH ?_;refine tk_ 4 11 (bm 8 27) HT_ HW_ hH ?_;refine on_ 2 (some 9) (bs 8 5) HT_ (fun K hK=>?_);refine gz_ Try.func52 (impl_VecTop.calls a0_1 a0_2 a0_3 t561 _ A3.out) ?_;rintro e w56 ⟨rfl,hb⟩;refine⟨_,rfl,?_⟩;replace B559:=bb_ B559 hb;replace B560:=bb_ B560 hb;replace HB:=sb_ HB hb;(try clear hb);refine hK.out _ _ (bs5_ B559 (bo6_ B560)) (fun hH=>?_);clear hK K;refine norm_ (a':=?_) ?_ ?_;rotate_left
   ·show Act.put _ (some 9) _=_;simp only [Act.put,ls0_,ls1_,ls2_,i64_w,i32_w];rfl
   refine on_ 5 (some 12) (bs 8 6) HT_ (fun K hK=>?_);refine gz_ Try.func52 (impl_VecTop.calls a1_3 a1_4 a1_5 t562 _ A4.out) ?_;rintro e w57 ⟨rfl,hb⟩;refine⟨_,rfl,?_⟩;replace B559:=bb_ B559 hb;replace B560:=bb_ B560 hb;replace HB:=sb_ HB hb;(try clear hb);refine hK.out _ _ (bs5_ B559 (bo6_ B560)) (fun hH=>?_);clear hK K;refine norm_ (a':=?_) ?_ ?_;rotate_left
   ·show Act.put _ (some 12) _=_;simp only [Act.put,ls0_,ls1_,ls2_,i64_w,i32_w];rfl
   (iterate 2 (refine psn_ HT_ ?_));refine done_ (done_of HT_.out (by kernel_rfl)) ?_;obtain⟨hnb58,hnc58⟩:=nn_ D560_559;obtain⟨Z59_0,Z59_1,Z59_2,Z59_3,Z59_4,Z59_5,F59_0,F59_1,F59_2,F59_3,F59_4,F59_5⟩:=bz6_ B560
   try go_wp2_with (first|((with_reducible refine gc_ 44 rfl ?_);refine gk_ 15 Try.func44 (impl_isFlow.calls a1_0 true _ A5.out) ?_;rintro e w' ⟨rfl,⟨nd,rfl⟩⟩;refine⟨_,rfl,?_⟩)|(go_at_call 45;(with_reducible refine(impl_isWeight.calls a1_1 false _ A7.out).mono ?_);rintro e w' ⟨rfl,⟨nd,rfl⟩⟩))
   go_ret;exact⟨er_,bf_ HB⟩
 ·replace c6:=Bool.eq_false_iff.mpr c6;subst c6;rw [if_neg (show ¬ (false=true) by decide)]at H;obtain rfl:=Option.some.inj H
  go_enter Try.func53,Try.ntmps53
  try go_wp2_with (first|((with_reducible refine gd_ 2 rfl ?_);refine bv_ 2 #[.int .i64 a0_0,.int .i64 a0_1,.int .i64 a0_2,.int .i64 a0_3,.slice A0_4 l0_4.length c0_4] 31 ?_;intro gb559 hg w60 hbox hb;have B559:=am_ (hbox);have GW559:=gw_ HB hg;have GE559:=gw_ HB hg;replace HB:=am_ (below_step (be_ HB) hb);clear hb hbox hg)|((with_reducible refine gd_ 3 rfl ?_);refine bv_ 3 #[.int .i64 a1_0,.int .i64 a1_1,.bool a1_2,.int .i64 a1_3,.int .i64 a1_4,.int .i64 a1_5] 46 ?_;intro gb560 hg w61 hbox hb;have B560:=am_ (hbox);have GW560:=gw_ HB hg;have GE560:=gw_ HB hg;replace HB:=sb_ HB hb;have D559_560:=nl_ B559 hg;have D560_559:=ng_ B559 hg;replace B559:=bb_ B559 hb;clear hb hbox hg))
  replace B559:=bd_ B559;replace B560:=bd_ B560;replace HB:=be1_ HB;refine start_ (n:=8) (S:=fun w'=>cb5_ w' gb559 (.int .i64 a0_0) (.int .i64 a0_1) (.int .i64 a0_2) (.int .i64 a0_3) (.slice A0_4 l0_4.length c0_4) (cc6_ w' gb560 (.int .i64 a1_0) (.int .i64 a1_1) (.bool a1_2) (.int .i64 a1_3) (.int .i64 a1_4) (.int .i64 a1_5))) (ds:=[]) (bs 8 0) (by kernel_rfl) rfl rfl (bs5_ B559 (bo6_ B560)) (fun hH=>?_);refine with_tabW impl_Fair_kidOk.tab1 impl_Fair_kidOk.bits1 (fun HT_ HW_=>?_);generalize w61.drew=w62 at B559 B560 HB hH ⊢;refine psn_ HT_ ?_;refine ps_ 3 10 (bm 8 9) HT_ ?_;refine tk_ 1 8 (bm 8 11) HT_ HW_ hH ?_;refine tk_ 4 11 (bm 8 27) HT_ HW_ hH ?_;refine on_ 2 (some 9) (bs 8 5) HT_ (fun K hK=>?_);refine gz_ Try.func52 (impl_VecTop.calls a0_1 a0_2 a0_3 t561 _ A3.out) ?_;rintro e w63 ⟨rfl,hb⟩;refine⟨_,rfl,?_⟩;replace B559:=bb_ B559 hb;replace B560:=bb_ B560 hb;replace HB:=sb_ HB hb;(try clear hb);refine hK.out _ _ (bs5_ B559 (bo6_ B560)) (fun hH=>?_);clear hK K;refine norm_ (a':=?_) ?_ ?_;rotate_left
  ·show Act.put _ (some 9) _=_;simp only [Act.put,ls0_,ls1_,ls2_,i64_w,i32_w];rfl
  refine on_ 5 (some 12) (bs 8 6) HT_ (fun K hK=>?_);refine gz_ Try.func52 (impl_VecTop.calls a1_3 a1_4 a1_5 t562 _ A4.out) ?_;rintro e w64 ⟨rfl,hb⟩;refine⟨_,rfl,?_⟩;replace B559:=bb_ B559 hb;replace B560:=bb_ B560 hb;replace HB:=sb_ HB hb;(try clear hb);refine hK.out _ _ (bs5_ B559 (bo6_ B560)) (fun hH=>?_);clear hK K;refine norm_ (a':=?_) ?_ ?_;rotate_left
  ·show Act.put _ (some 12) _=_;simp only [Act.put,ls0_,ls1_,ls2_,i64_w,i32_w];rfl
  (iterate 2 (refine psn_ HT_ ?_));refine done_ (done_of HT_.out (by kernel_rfl)) ?_;obtain⟨hnb65,hnc65⟩:=nn_ D560_559;obtain⟨Z66_0,Z66_1,Z66_2,Z66_3,Z66_4,Z66_5,F66_0,F66_1,F66_2,F66_3,F66_4,F66_5⟩:=bz6_ B560
  try go_wp2_with (first|((with_reducible refine gc_ 44 rfl ?_);refine gk_ 15 Try.func44 (impl_isFlow.calls a1_0 false _ A5.out) ?_;rintro e w' ⟨rfl,⟨nd,rfl⟩⟩;refine⟨_,rfl,?_⟩))
  go_ret;exact⟨er_,bf_ HB⟩

end Go.Proofs.Ytppmbdfbhahngaa.PFnWaits
