-- printed by a program of this session (wip/printx) out of the translation; Lean checks it
import Derived.Test.YtppmbdfbhahngaaVFnPickFirst
import Derived.Test.YtppmbdfbhahngaaPFnPickFirstx0
import Derived.Test.YtppmbdfbhahngaaPFnPickFirstx5
import Derived.Test.YtppmbdfbhahngaaPFnPickFirstx7
namespace Go.Proofs.Ytppmbdfbhahngaa.PFnPickFirst
open Go.RowKit Go.Proofs.YtppmbdfbhahngaaW.PrintWords Go.Proofs.YtppmbdfbhahngaaW.PrintLast Go.Proofs.YtppmbdfbhahngaaW.PrintMore
attribute [local go_sem] max2_int min2_int max_two min_two max_three min_three max_four min_four   -- for this text's walks alone
set_option linter.unusedVariables false
set_option linter.unusedSimpArgs false

/-! ### spec_Narrow: function 49 -/
def spec_Narrow.f (a0_0:Int) (a0_1:Int) (a0_2:Int) (a1:Int):Option (Bool):=(spec_TagOk.f a0_0 a0_1 a0_2).bind fun t223=>(if t223=true then((spec_l13Delta.f a1).bind fun t224=>(if t224=true then((spec_VecTop.f a0_0 a0_1 a0_2).bind fun t225=>(some (decide ((mn (mn a0_0 a0_1) a0_2) ≥ (wrap64 (t225 - a1)))))) else(some false))) else(some false))
def spec_Narrow.T1:Bool × List (List Nat × List Nat):=(true,[([],[]),([0],[0]),([1,1],[1]),([2],[2]),([3,2,2],[2,3]),([2,4],[2,4]),([5,4],[5]),([6],[6]),([7,6],[6,7]),([6],[6]),([9,6],[6,9]),([6],[6]),([11,6],[6,11]),([8,10,12,6],[6,8,10,12]),([6],[6]),([14,6,6],[6,14]),([6],[6]),([15,16,6],[6,15,16]),([13,17,6],[6,13,17]),([6,18],[6,18]),([19,15,0,1,2,3,4,5,6,7,8,9,10,11,12,13,14,15,16,17,18,19],[19])])
def spec_Narrow.B1:List Nat:=[0,1,3,7,15,31,63,127,255,127,639,127,2175,8191,127,16511,127,114815,262143,524287,1048575]
theorem spec_Narrow.tab1:rtab .any (opsOf Try.f49 1)=spec_Narrow.T1:=by kernel_rfl
theorem spec_Narrow.bits1:waitsOk spec_Narrow.T1.2 spec_Narrow.B1=true:=by kernel_rfl
set_option maxHeartbeats 8000000 in
set_option maxRecDepth 100000 in
theorem spec_Narrow.calls (a0_0:Int) (a0_1:Int) (a0_2:Int) (a1:Int) (r:Bool) (w:World) (h:spec_Narrow.f a0_0 a0_1 a0_2 a1=some r) :
  Calls Try.prog 49 #[.agg #[.int .i64 a0_0,.int .i64 a0_1,.int .i64 a0_2],.int .i64 a1] w fun e w'=>e=.returned (.bool r)∧Below w.heap.size w w':=by
 have hu28:=Try.underlying28;have HB:=am_ (Below.refl w.heap.size w);have H:=h;clear h;unfold spec_Narrow.f at H;replace H:=bm1_ H;obtain⟨t223,A3,H⟩:=H
 by_cases c4:t223=true
 ·subst c4;rw [if_pos rfl]at H;replace H:=bm1_ H;obtain⟨t224,A5,H⟩:=H
  by_cases c6:t224=true
  ·subst c6;rw [if_pos rfl]at H;obtain⟨ji7,hji7⟩:∃ j_:Int,(mn a0_0 a0_1)=j_:=⟨_,rfl⟩;replace H:((spec_VecTop.f a0_0 a0_1 a0_2).bind fun t225=>(some (decide ((mn (ji7) a0_2) ≥ (wrap64 (t225 - a1))))))=some r:=(by first|(rw [hji7]at H;exact H)|(simp only [hji7]at H ⊢;exact H));(try rw [hji7]at A3);(try rw [hji7]at A5);have hji7_:(if a0_1 < a0_0 then a0_1 else a0_0)=ji7:=hji7;obtain⟨ji8,hji8⟩:∃ j_:Int,(mn (ji7) a0_2)=j_:=⟨_,rfl⟩;replace H:((spec_VecTop.f a0_0 a0_1 a0_2).bind fun t225=>(some (decide ((ji8) ≥ (wrap64 (t225 - a1))))))=some r:=(by first|(rw [hji8]at H;exact H)|(simp only [hji8]at H ⊢;exact H));(try rw [hji8]at A3);(try rw [hji8]at A5);have hji8_:(if a0_2 < (ji7) then a0_2 else(ji7))=ji8:=hji8;replace H:=bm1_ H;obtain⟨t225,A9,H⟩:=H;obtain rfl:=Option.some.inj H
   go_enter Try.func49,Try.ntmps49
   try go_wp2_with (first|((with_reducible refine gd_ 2 rfl ?_);(try (refine gate_guard (by rfl) ?_;dsimp only));refine bv_ 2 #[.int .i64 a0_0,.int .i64 a0_1,.int .i64 a0_2] 28 ?_;intro gb222 hg w10 hbox hb;have B222:=am_ (hbox);have GW222:=gw_ HB hg;have GE222:=gw_ HB hg;replace HB:=am_ (below_step (be_ HB) hb);clear hb hbox hg))
   replace B222:=bd_ B222;replace HB:=be1_ HB;refine start_ (n:=21) (S:=fun w'=>cc3_ w' gb222 (.int .i64 a0_0) (.int .i64 a0_1) (.int .i64 a0_2)) (ds:=[]) (bs 21 0) (by kernel_rfl) rfl rfl (bo3_ B222) (fun hH=>?_);refine with_tabW spec_Narrow.tab1 spec_Narrow.bits1 (fun HT_ HW_=>?_);generalize w10.drew=w11 at B222 HB hH ⊢;refine tkn_ HT_ HW_ hH ?_;refine on_ 1 (some 6) (bs 21 2) HT_ (fun K hK=>?_);refine gz_ Try.func78 (spec_TagOk.calls a0_0 a0_1 a0_2 true _ A3.out) ?_;rintro e w12 ⟨rfl,hb⟩;refine⟨_,rfl,?_⟩;replace B222:=bb_ B222 hb;replace HB:=sb_ HB hb;(try clear hb);refine hK.out _ _ (bo3_ B222) (fun hH=>?_);clear hK K;refine norm_ (a':=?_) ?_ ?_;rotate_left
   ·show Act.put _ (some 6) _=_;simp only [Act.put,ls0_,ls1_,ls2_,i64_w,i32_w];rfl
   (iterate 2 (refine psn_ HT_ ?_));refine on_ 4 (some 9) (bs 21 5) HT_ (fun K hK=>?_);refine gz_ Try.func79 (spec_l13Delta.calls a1 true _ A5.out) ?_;rintro e w' ⟨rfl,⟨nd,rfl⟩⟩;refine⟨_,rfl,?_⟩;refine hK.out _ _ (bo3_ B222) (fun hH=>?_);clear hK K;refine norm_ (a':=?_) ?_ ?_;rotate_left
   ·show Act.put _ (some 9) _=_;simp only [Act.put,ls0_,ls1_,ls2_,i64_w,i32_w];rfl
   (iterate 3 (refine psn_ HT_ ?_));refine ps_ 9 14 (bm 21 767) HT_ ?_;refine ps_ 11 16 (bm 21 2815) HT_ ?_;refine ps_ 16 21 (bm 21 68351) HT_ ?_;refine tk_ 8 13 (bm 21 68607) HT_ HW_ hH ?_;refine tk_ 10 15 (bm 21 69631) HT_ HW_ hH ?_;refine tk_ 12 17 (bm 21 73727) HT_ HW_ hH ?_;refine ps_ 13 18 (bm 21 81919) HT_ ?_;refine tk_ 14 19 (bm 21 98303) HT_ HW_ hH ?_;refine on_ 15 (some 20) (bs 21 17) HT_ (fun K hK=>?_);refine gz_ Try.func23 (spec_VecTop.calls a0_0 a0_1 a0_2 t225 _ A9.out) ?_;rintro e w13 ⟨rfl,hb⟩;refine⟨_,rfl,?_⟩;replace B222:=bb_ B222 hb;replace HB:=sb_ HB hb;(try clear hb);refine hK.out _ _ (bo3_ B222) (fun hH=>?_);clear hK K;refine norm_ (a':=?_) ?_ ?_;rotate_left
   ·show Act.put _ (some 20) _=_;simp only [Act.put,ls0_,ls1_,ls2_,i64_w,i32_w];rfl
   (iterate 4 (refine psn_ HT_ ?_));refine done_ (done_of HT_.out (by kernel_rfl)) ?_
   try go_wp2
   go_ret;exact⟨by first|rfl|(simp [errW_none,errW_some]<;>rfl)|(simp only [← hji7,← hji8];first|rfl|(simp [errW_none,errW_some]<;>rfl))|(simp [*,errW_none,errW_some]<;>rfl),bf_ HB⟩
  ·replace c6:=Bool.eq_false_iff.mpr c6;subst c6;rw [if_neg (show ¬ (false=true) by decide)]at H;obtain rfl:=Option.some.inj H
   go_enter Try.func49,Try.ntmps49
   try go_wp2_with (first|((with_reducible refine gd_ 2 rfl ?_);(try (refine gate_guard (by rfl) ?_;dsimp only));refine bv_ 2 #[.int .i64 a0_0,.int .i64 a0_1,.int .i64 a0_2] 28 ?_;intro gb222 hg w14 hbox hb;have B222:=am_ (hbox);have GW222:=gw_ HB hg;have GE222:=gw_ HB hg;replace HB:=am_ (below_step (be_ HB) hb);clear hb hbox hg))
   replace B222:=bd_ B222;replace HB:=be1_ HB;refine start_ (n:=21) (S:=fun w'=>cc3_ w' gb222 (.int .i64 a0_0) (.int .i64 a0_1) (.int .i64 a0_2)) (ds:=[]) (bs 21 0) (by kernel_rfl) rfl rfl (bo3_ B222) (fun hH=>?_);refine with_tabW spec_Narrow.tab1 spec_Narrow.bits1 (fun HT_ HW_=>?_);generalize w14.drew=w15 at B222 HB hH ⊢;refine tkn_ HT_ HW_ hH ?_;refine on_ 1 (some 6) (bs 21 2) HT_ (fun K hK=>?_);refine gz_ Try.func78 (spec_TagOk.calls a0_0 a0_1 a0_2 true _ A3.out) ?_;rintro e w16 ⟨rfl,hb⟩;refine⟨_,rfl,?_⟩;replace B222:=bb_ B222 hb;replace HB:=sb_ HB hb;(try clear hb);refine hK.out _ _ (bo3_ B222) (fun hH=>?_);clear hK K;refine norm_ (a':=?_) ?_ ?_;rotate_left
   ·show Act.put _ (some 6) _=_;simp only [Act.put,ls0_,ls1_,ls2_,i64_w,i32_w];rfl
   (iterate 2 (refine psn_ HT_ ?_));refine on_ 4 (some 9) (bs 21 5) HT_ (fun K hK=>?_);refine gz_ Try.func79 (spec_l13Delta.calls a1 false _ A5.out) ?_;rintro e w' ⟨rfl,⟨nd,rfl⟩⟩;refine⟨_,rfl,?_⟩;refine hK.out _ _ (bo3_ B222) (fun hH=>?_);clear hK K;refine norm_ (a':=?_) ?_ ?_;rotate_left
   ·show Act.put _ (some 9) _=_;simp only [Act.put,ls0_,ls1_,ls2_,i64_w,i32_w];rfl
   (iterate 2 (refine psn_ HT_ ?_));(iterate 12 (refine pun_ HT_ ?_));(iterate 2 (refine psn_ HT_ ?_));refine done_ (done_of HT_.out (by kernel_rfl)) ?_
   try go_wp2
   go_ret;exact⟨er_,bf_ HB⟩
 ·replace c4:=Bool.eq_false_iff.mpr c4;subst c4;rw [if_neg (show ¬ (false=true) by decide)]at H;obtain rfl:=Option.some.inj H
  go_enter Try.func49,Try.ntmps49
  try go_wp2_with (first|((with_reducible refine gd_ 2 rfl ?_);(try (refine gate_guard (by rfl) ?_;dsimp only));refine bv_ 2 #[.int .i64 a0_0,.int .i64 a0_1,.int .i64 a0_2] 28 ?_;intro gb222 hg w17 hbox hb;have B222:=am_ (hbox);have GW222:=gw_ HB hg;have GE222:=gw_ HB hg;replace HB:=am_ (below_step (be_ HB) hb);clear hb hbox hg))
  replace B222:=bd_ B222;replace HB:=be1_ HB;refine start_ (n:=21) (S:=fun w'=>cc3_ w' gb222 (.int .i64 a0_0) (.int .i64 a0_1) (.int .i64 a0_2)) (ds:=[]) (bs 21 0) (by kernel_rfl) rfl rfl (bo3_ B222) (fun hH=>?_);refine with_tabW spec_Narrow.tab1 spec_Narrow.bits1 (fun HT_ HW_=>?_);generalize w17.drew=w18 at B222 HB hH ⊢;refine tkn_ HT_ HW_ hH ?_;refine on_ 1 (some 6) (bs 21 2) HT_ (fun K hK=>?_);refine gz_ Try.func78 (spec_TagOk.calls a0_0 a0_1 a0_2 false _ A3.out) ?_;rintro e w19 ⟨rfl,hb⟩;refine⟨_,rfl,?_⟩;replace B222:=bb_ B222 hb;replace HB:=sb_ HB hb;(try clear hb);refine hK.out _ _ (bo3_ B222) (fun hH=>?_);clear hK K;refine norm_ (a':=?_) ?_ ?_;rotate_left
  ·show Act.put _ (some 6) _=_;simp only [Act.put,ls0_,ls1_,ls2_,i64_w,i32_w];rfl
  refine psn_ HT_ ?_;(iterate 2 (refine pun_ HT_ ?_));(iterate 2 (refine psn_ HT_ ?_));(iterate 12 (refine pun_ HT_ ?_));(iterate 2 (refine psn_ HT_ ?_));refine done_ (done_of HT_.out (by kernel_rfl)) ?_
  try go_wp2
  go_ret;exact⟨er_,bf_ HB⟩

end Go.Proofs.Ytppmbdfbhahngaa.PFnPickFirst
