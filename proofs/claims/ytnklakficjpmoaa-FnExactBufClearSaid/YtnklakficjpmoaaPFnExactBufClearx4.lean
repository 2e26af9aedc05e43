-- printed by a program of this session (wip/printx) out of the translation; Lean checks it
import Derived.Test.YtnklakficjpmoaaVFnExactBufClear
import Derived.Test.YtnklakficjpmoaaPFnExactBufClearx0
import Derived.Test.YtnklakficjpmoaaPFnExactBufClearx3
namespace Go.Proofs.Ytnklakficjpmoaa.PFnExactBufClear
open Go.RowKit Go.Proofs.YtnklakficjpmoaaW.PrintWords Go.Proofs.YtnklakficjpmoaaW.PrintLast Go.Proofs.YtnklakficjpmoaaW.PrintMore
attribute [local go_sem] max2_int min2_int max_two min_two max_three min_three max_four min_four   -- for this text's walks alone
set_option linter.unusedVariables false
set_option linter.unusedSimpArgs false

/-! ### impl_heldOk: function 81 -/
def impl_heldOk.f (a0_0:Int) (a0_1:Int):Option (Bool):=(impl_within.f a0_0 0 1000000000000).bind fun t178=>(if t178=true then((impl_within.f a0_1 1 1600).bind fun t179=>(some t179)) else(some false))
set_option maxHeartbeats 80000000 in
set_option maxRecDepth 100000 in
theorem impl_heldOk.calls (a0_0:Int) (a0_1:Int) (r:Bool) (w:World) (h:impl_heldOk.f a0_0 a0_1=some r) :
  Calls Try.prog 81 #[.agg #[.int .i64 a0_0,.int .i64 a0_1]] w fun e w'=>e=.returned (.bool r)∧Below w.heap.size w w':=by
 have hu52:=Try.underlying52;have HB:=am_ (Below.refl w.heap.size w);have H:=h;clear h;unfold impl_heldOk.f at H;replace H:=bm1_ H;obtain⟨t178,A2,H⟩:=H
 by_cases c3:t178=true
 ·subst c3;rw [if_pos rfl]at H;replace H:=bm1_ H;obtain⟨t179,A4,H⟩:=H;obtain rfl:=Option.some.inj H
  go_enter Try.func81,Try.ntmps81
  go_wp2_with (first|((with_reducible refine gd_ 1 rfl ?_);refine bv_ 1 #[.int .i64 a0_0,.int .i64 a0_1] 52 ?_;intro gb177 hg w5 hbox hb;have B177:=am_ (hbox);have GW177:=gw_ HB hg;have GE177:=gw_ HB hg;replace HB:=am_ (below_step (be_ HB) hb);clear hb hbox hg;obtain⟨Z6_0,Z6_1,F6_0,F6_1⟩:=bz2_ B177)|((with_reducible refine gc_ 118 rfl ?_);refine gk_ 5 Try.func118 (impl_within.calls a0_0 0 1000000000000 true _ A2.out) ?_;rintro e w' ⟨rfl,⟨nd,rfl⟩⟩;refine⟨_,rfl,?_⟩)|(go_at_call 118;(with_reducible refine(impl_within.calls a0_1 1 1600 t179 _ A4.out).mono ?_);rintro e w' ⟨rfl,⟨nd,rfl⟩⟩));go_ret;exact⟨er_,bf_ HB⟩
 ·replace c3:=Bool.eq_false_iff.mpr c3;subst c3;rw [if_neg (show ¬ (false=true) by decide)]at H;obtain rfl:=Option.some.inj H
  go_enter Try.func81,Try.ntmps81
  go_wp2_with (first|((with_reducible refine gd_ 1 rfl ?_);refine bv_ 1 #[.int .i64 a0_0,.int .i64 a0_1] 52 ?_;intro gb177 hg w7 hbox hb;have B177:=am_ (hbox);have GW177:=gw_ HB hg;have GE177:=gw_ HB hg;replace HB:=am_ (below_step (be_ HB) hb);clear hb hbox hg;obtain⟨Z8_0,Z8_1,F8_0,F8_1⟩:=bz2_ B177)|((with_reducible refine gc_ 118 rfl ?_);refine gk_ 5 Try.func118 (impl_within.calls a0_0 0 1000000000000 false _ A2.out) ?_;rintro e w' ⟨rfl,⟨nd,rfl⟩⟩;refine⟨_,rfl,?_⟩));go_ret;exact⟨er_,bf_ HB⟩

/-! ### impl_Lane_bytes: function 86 -/
def impl_Lane_bytes.l0:Nat→Int→List (S52)→Int→Int→Option (Int)
  | 0,_,_,_,_=>none
  | k+1,x3,x7,x8,x9=>if x9 < x8 then(if 0≤x9 then(if x9 < (x7.length:Int) then(impl_Lane_bytes.l0 k (wrap64 (x3+((rd_T52 x7 x9).f1))) x7 x8 (wrap64 (x9+1))) else(none)) else(none)) else(some x3)
def impl_Lane_bytes.f (k:Nat) (a0_0:Int) (l0_1:List (S52)):Option (Int):=impl_Lane_bytes.l0 k 0 l0_1 (l0_1.length:Int) 0
theorem impl_Lane_bytes.mono_l:∀ k,(∀ y0 y1 y2 y3,LeO (impl_Lane_bytes.l0 k y0 y1 y2 y3) (impl_Lane_bytes.l0 (k+1) y0 y1 y2 y3))
 | 0=>fun _ _ _ _ r h=>by simp [impl_Lane_bytes.l0]at h
 | k+1=>by
  have ih0:=impl_Lane_bytes.mono_l k
  ·intro y0 y1 y2 y3;unfold impl_Lane_bytes.l0
   repeat' (first|(with_reducible exact ih0 ..)|(with_reducible exact LeO.refl _)|(with_reducible exact LeO.none _)|(with_reducible refine LeO.ite ?_ ?_)|(with_reducible refine LeO.bind ?_ (fun _=>?_))|exact ih0 ..|exact LeO.none _|refine LeO.ite ?_ ?_|refine LeO.bind ?_ (fun _=>?_))
theorem impl_Lane_bytes.mono:∀ a0 a1 k,LeO (impl_Lane_bytes.f k a0 a1) (impl_Lane_bytes.f (k+1) a0 a1):=by
 intro a0 a1 k;have ih0:=impl_Lane_bytes.mono_l k;unfold impl_Lane_bytes.f
 repeat' (first|(with_reducible exact ih0 ..)|(with_reducible exact LeO.refl _)|(with_reducible exact LeO.none _)|(with_reducible refine LeO.ite ?_ ?_)|(with_reducible refine LeO.bind ?_ (fun _=>?_))|exact ih0 ..|exact LeO.none _|refine LeO.ite ?_ ?_|refine LeO.bind ?_ (fun _=>?_))
set_option maxHeartbeats 80000000 in
set_option maxRecDepth 100000 in
theorem impl_Lane_bytes.calls (k:Nat) (a0_0:Int) (A0_1:Option Addr) (c0_1:Nat) (l0_1:List (S52)) (r:Int) (w:World) (hr0_1:Kd.C k52 w A0_1 l0_1.length l0_1) (hc0_1:l0_1.length≤c0_1) (h:impl_Lane_bytes.f k a0_0 l0_1=some r) :
  Calls Try.prog 86 #[.agg #[.int .i64 a0_0,.slice A0_1 l0_1.length c0_1]] w fun e w'=>e=.returned (.int .i64 r)∧Below w.heap.size w w':=by
 have hu80:=Try.underlying80;have hu52:=Try.underlying52;have HR0_1:=am_ hr0_1;have HC0_1:=am_ hc0_1;clear hr0_1 hc0_1;have HB:=am_ (Below.refl w.heap.size w);have H:=h;clear h;unfold impl_Lane_bytes.f at H;have H':=am_ H;clear H
 go_enter Try.func86,Try.ntmps86
 go_wp2_with (first|((with_reducible refine gd_ 1 rfl ?_);refine bv_ 1 #[.int .i64 a0_0,.slice A0_1 l0_1.length c0_1] 80 ?_;intro gb180 hg w2 hbox hb;have B180:=am_ (hbox);have GW180:=gw_ HB hg;have GE180:=gw_ HB hg;replace HB:=am_ (below_step (be_ HB) hb);clear hb hbox hg;obtain⟨Z3_0,Z3_1,F3_0,F3_1⟩:=bz2_ B180));(try simp only [Act.put,ls0_,ls1_,ls2_])
 go_loopg [3,9] k (fun kq v3 v9 w'=>∃ (x3_1:Int) (x9_1:Int),v3=.int .i64 x3_1∧v9=.int .i64 x9_1∧Aside0 (impl_Lane_bytes.l0 kq x3_1 l0_1 (l0_1.length:Int) x9_1=some r)∧Aside0 (kq≤k)∧Aside0 (w'.heap[gb180]?=some (.cells #[.int .i64 a0_0,(.slice A0_1 l0_1.length c0_1)] 80 (0,0)))∧Aside0 (Below w.heap.size w w'))
 case atStart=>exact⟨(0),(0),re_,re_,H',⟨Nat.le_refl _⟩,⟨bk_ B180⟩,⟨bf_ HB⟩⟩
 case round =>
  clear H';(try clear Z3_0 Z3_1 F3_0 F3_1);obtain⟨x3_1,x9_1,rfl,rfl,HA,HK1,B180,HB⟩:=hrel
  cases gk with
  | zero=>exact absurd HA.out (by simp [impl_Lane_bytes.l0])
  | succ k1 =>
   have H:=HA.out;clear HA;simp only [impl_Lane_bytes.l0]at H
   by_cases c4:x9_1 < (l0_1.length:Int)
   ·rw [if_pos c4]at H;have c4b0:decide (x9_1 < (l0_1.length:Int))=true:=decide_eq_true c4;clear c4
    by_cases c5:0≤x9_1
    ·rw [if_pos c5]at H;have c5b0:decide (0≤x9_1)=true:=decide_eq_true c5;clear c5
     by_cases c6:x9_1 < (l0_1.length:Int)
     ·rw [if_pos c6]at H;have c6b0:decide (x9_1 < (l0_1.length:Int))=true:=decide_eq_true c6;clear c6;have H':=am_ H;clear H;have p181:0≤(x9_1:Int):=od_;have q181:x9_1 < (l0_1.length:Int):=od_;obtain⟨ad181,e181,hw181_0,hw181_1⟩:=at_T52 HR0_1.out x9_1 p181 q181;cases e181;obtain⟨hx181_0,hx181_1⟩:=hb2_ HB hw181_0 hw181_1;replace p181:=eq_true p181;replace q181:=eq_true q181;go_wp2_with (first|((with_reducible refine gd_ 5 rfl ?_);refine bv_ 5 #[.int .i64 0,.int .i64 0] 52 ?_;intro gb182 hg w7 hbox hb;have B182:=am_ (hbox);have GW182:=gw_ HB hg;have GE182:=gw_ HB hg;replace HB:=sb_ HB hb;have D180_182:=nl_ B180 hg;have D182_180:=ng_ B180 hg;replace B180:=bb_ B180 hb;clear hb hbox hg;obtain⟨hnb8,hnc8⟩:=nn_ D182_180;obtain⟨Z9_0,Z9_1,F9_0,F9_1⟩:=bz2_ B182))
      go_roundg k1
      case measure=>have:=HK1.out;omega
      case rel=>exact⟨(wrap64 (x3_1+((rd_T52 l0_1 x9_1).f1))),(wrap64 (x9_1+1)),re_,re_,H',⟨by have:=HK1.out;omega⟩,⟨bl_ B180⟩,⟨bf_ HB⟩⟩
     ·rw [if_neg c6]at H;exact absurd H (by simp)
    ·rw [if_neg c5]at H;exact absurd H (by simp)
   ·rw [if_neg c4]at H;have c4b0:decide (x9_1 < (l0_1.length:Int))=false:=decide_eq_false c4;clear c4;obtain rfl:=Option.some.inj H;go_wp2;go_ret;exact⟨er_,bf_ HB⟩

/-! ### impl_Lane_fits: function 87 -/
def impl_Lane_fits.f (k:Nat) (a0_0:Int) (l0_1:List (S52)) (a1_0:Int) (a1_1:Int) (a1_2:Int) (a1_3:Int) (a1_4:Bool):Option (Bool):=if (l0_1.length:Int)≤a1_0 then((impl_Lane_bytes.f k a0_0 l0_1).bind fun t185=>(some (decide (t185≤a1_1)))) else(some false)
theorem impl_Lane_fits.mono:∀ a0 a1 a2 a3 a4 a5 a6 k,LeO (impl_Lane_fits.f k a0 a1 a2 a3 a4 a5 a6) (impl_Lane_fits.f (k+1) a0 a1 a2 a3 a4 a5 a6):=by
 intro a0 a1 a2 a3 a4 a5 a6 k;unfold impl_Lane_fits.f
 repeat' (first|(with_reducible exact impl_Lane_bytes.mono _ _ _)|(with_reducible exact LeO.refl _)|(with_reducible exact LeO.none _)|(with_reducible refine LeO.ite ?_ ?_)|(with_reducible refine LeO.bind ?_ (fun _=>?_))|exact impl_Lane_bytes.mono _ _ _|exact LeO.none _|refine LeO.ite ?_ ?_|refine LeO.bind ?_ (fun _=>?_))
def impl_Lane_fits.T1:Bool × List (List Nat × List Nat):=(true,[([],[]),([0],[0]),([1],[1]),([],[]),([3],[3]),([2,4],[2,4]),([5],[5]),([6],[6]),([7,6,6],[6,7]),([6],[6]),([9,6],[6,9]),([8,10,6],[6,8,10]),([6,11],[6,11]),([12,8,0,1,2,3,4,5,6,7,8,9,10,11,12],[12])])
def impl_Lane_fits.B1:List Nat:=[0,1,3,0,8,31,63,127,255,127,639,2047,4095,8191]
theorem impl_Lane_fits.tab1:rtab .any (opsOf Try.f87 1)=impl_Lane_fits.T1:=by kernel_rfl
theorem impl_Lane_fits.bits1:waitsOk impl_Lane_fits.T1.2 impl_Lane_fits.B1=true:=by kernel_rfl
set_option maxHeartbeats 80000000 in
set_option maxRecDepth 100000 in
theorem impl_Lane_fits.calls (k:Nat) (a0_0:Int) (A0_1:Option Addr) (c0_1:Nat) (l0_1:List (S52)) (a1_0:Int) (a1_1:Int) (a1_2:Int) (a1_3:Int) (a1_4:Bool) (r:Bool) (w:World) (hr0_1:Kd.C k52 w A0_1 l0_1.length l0_1) (hc0_1:l0_1.length≤c0_1) (h:impl_Lane_fits.f k a0_0 l0_1 a1_0 a1_1 a1_2 a1_3 a1_4=some r) :
  Calls Try.prog 87 #[.agg #[.int .i64 a0_0,.slice A0_1 l0_1.length c0_1],.agg #[.int .i64 a1_0,.int .i64 a1_1,.int .i64 a1_2,.int .i64 a1_3,.bool a1_4]] w fun e w'=>e=.returned (.bool r)∧Below w.heap.size w w':=by
 have hu80:=Try.underlying80;have hu44:=Try.underlying44;have HR0_1:=am_ hr0_1;have HC0_1:=am_ hc0_1;clear hr0_1 hc0_1;have HB:=am_ (Below.refl w.heap.size w);have H:=h;clear h;unfold impl_Lane_fits.f at H
 by_cases c3:(l0_1.length:Int)≤a1_0
 ·rw [if_pos c3]at H;have c3b0:decide ((l0_1.length:Int)≤a1_0)=true:=decide_eq_true c3;clear c3;replace H:=bm1_ H;obtain⟨t185,A4,H⟩:=H;obtain rfl:=Option.some.inj H
  go_enter Try.func87,Try.ntmps87
  try go_wp2_with (first|((with_reducible refine gd_ 2 rfl ?_);refine bv_ 2 #[.int .i64 a0_0,.slice A0_1 l0_1.length c0_1] 80 ?_;intro gb183 hg w5 hbox hb;have B183:=am_ (hbox);have GW183:=gw_ HB hg;have GE183:=gw_ HB hg;replace HB:=am_ (below_step (be_ HB) hb);clear hb hbox hg)|((with_reducible refine gd_ 3 rfl ?_);refine bv_ 3 #[.int .i64 a1_0,.int .i64 a1_1,.int .i64 a1_2,.int .i64 a1_3,.bool a1_4] 44 ?_;intro gb184 hg w6 hbox hb;have B184:=am_ (hbox);have GW184:=gw_ HB hg;have GE184:=gw_ HB hg;replace HB:=sb_ HB hb;have D183_184:=nl_ B183 hg;have D184_183:=ng_ B183 hg;replace B183:=bb_ B183 hb;clear hb hbox hg))
  replace B183:=bd_ B183;replace B184:=bd_ B184;replace HB:=be1_ HB;refine start_ (n:=14) (S:=fun w'=>cb2_ w' gb183 (.int .i64 a0_0) (.slice A0_1 l0_1.length c0_1) (cc5_ w' gb184 (.int .i64 a1_0) (.int .i64 a1_1) (.int .i64 a1_2) (.int .i64 a1_3) (.bool a1_4))) (ds:=[]) (bs 14 0) (by kernel_rfl) rfl rfl (bs2_ B183 (bo5_ B184)) (fun hH=>?_);refine with_tabW impl_Lane_fits.tab1 impl_Lane_fits.bits1 (fun HT_ HW_=>?_);generalize w6.drew=w7 at B183 B184 HB hH ⊢;refine psn_ HT_ ?_;refine ps_ 3 8 (bm 14 9) HT_ ?_;refine tk_ 1 6 (bm 14 11) HT_ HW_ hH ?_;refine ps_ 2 7 (bs 14 4) HT_ ?_;refine tkn_ HT_ HW_ hH ?_;(iterate 2 (refine psn_ HT_ ?_));refine ps_ 9 14 (bm 14 639) HT_ ?_;refine tk_ 7 12 (bm 14 767) HT_ HW_ hH ?_;refine tk_ 10 15 (bm 14 1791) HT_ HW_ hH ?_;refine on_ 8 (some 13) (bs 14 11) HT_ (fun K hK=>?_);refine gz_ Try.func86 (impl_Lane_bytes.calls k a0_0 _ _ l0_1 t185 _ ?side1 ?side2 A4.out) ?_;(case side1=>repeat (first|exact(Kd.C_below HR0_1.out HB.out)|(with_reducible refine Kd.C_alloc ?_ _)|(with_reducible refine Kd.C_drewN ?_ _)|(with_reducible refine Kd.C_drew ?_)));(case side2=>exact HC0_1.out);rintro e w8 ⟨rfl,hb⟩;refine⟨_,rfl,?_⟩;replace B183:=bb_ B183 hb;replace B184:=bb_ B184 hb;replace HB:=sb_ HB hb;(try clear hb);refine hK.out _ _ (bs2_ B183 (bo5_ B184)) (fun hH=>?_);clear hK K;refine norm_ (a':=?_) ?_ ?_;rotate_left
  ·show Act.put _ (some 13) _=_;simp only [Act.put,ls0_,ls1_,ls2_,i64_w,i32_w];rfl
  (iterate 3 (refine psn_ HT_ ?_));refine done_ (done_of HT_.out (by kernel_rfl)) ?_
  try go_wp2
  go_ret;exact⟨er_,bf_ HB⟩
 ·rw [if_neg c3]at H;have c3b0:decide ((l0_1.length:Int)≤a1_0)=false:=decide_eq_false c3;clear c3;obtain rfl:=Option.some.inj H
  go_enter Try.func87,Try.ntmps87
  try go_wp2_with (first|((with_reducible refine gd_ 2 rfl ?_);refine bv_ 2 #[.int .i64 a0_0,.slice A0_1 l0_1.length c0_1] 80 ?_;intro gb183 hg w9 hbox hb;have B183:=am_ (hbox);have GW183:=gw_ HB hg;have GE183:=gw_ HB hg;replace HB:=am_ (below_step (be_ HB) hb);clear hb hbox hg)|((with_reducible refine gd_ 3 rfl ?_);refine bv_ 3 #[.int .i64 a1_0,.int .i64 a1_1,.int .i64 a1_2,.int .i64 a1_3,.bool a1_4] 44 ?_;intro gb184 hg w10 hbox hb;have B184:=am_ (hbox);have GW184:=gw_ HB hg;have GE184:=gw_ HB hg;replace HB:=sb_ HB hb;have D183_184:=nl_ B183 hg;have D184_183:=ng_ B183 hg;replace B183:=bb_ B183 hb;clear hb hbox hg))
  replace B183:=bd_ B183;replace B184:=bd_ B184;replace HB:=be1_ HB;refine start_ (n:=14) (S:=fun w'=>cb2_ w' gb183 (.int .i64 a0_0) (.slice A0_1 l0_1.length c0_1) (cc5_ w' gb184 (.int .i64 a1_0) (.int .i64 a1_1) (.int .i64 a1_2) (.int .i64 a1_3) (.bool a1_4))) (ds:=[]) (bs 14 0) (by kernel_rfl) rfl rfl (bs2_ B183 (bo5_ B184)) (fun hH=>?_);refine with_tabW impl_Lane_fits.tab1 impl_Lane_fits.bits1 (fun HT_ HW_=>?_);generalize w10.drew=w11 at B183 B184 HB hH ⊢;refine psn_ HT_ ?_;refine ps_ 3 8 (bm 14 9) HT_ ?_;refine tk_ 1 6 (bm 14 11) HT_ HW_ hH ?_;refine ps_ 2 7 (bs 14 4) HT_ ?_;refine tkn_ HT_ HW_ hH ?_;(iterate 2 (refine psn_ HT_ ?_));(iterate 5 (refine pun_ HT_ ?_));(iterate 2 (refine psn_ HT_ ?_));refine done_ (done_of HT_.out (by kernel_rfl)) ?_
  try go_wp2
  go_ret;exact⟨er_,bf_ HB⟩

/-! ### impl_LimitsOk: function 105 -/
def impl_LimitsOk.f (a0_0:Int) (a0_1:Int) (a0_2:Int) (a0_3:Int) (a0_4:Bool):Option (Bool):=(impl_within.f a0_0 1 64).bind fun t187=>(if t187=true then((impl_within.f a0_1 1 100000).bind fun t188=>(if t188=true then((impl_within.f a0_2 1 1000000).bind fun t189=>(if t189=true then((impl_within.f a0_3 0 100000).bind fun t190=>(some t190)) else(some false))) else(some false))) else(some false))
set_option maxHeartbeats 80000000 in
set_option maxRecDepth 100000 in
theorem impl_LimitsOk.calls (a0_0:Int) (a0_1:Int) (a0_2:Int) (a0_3:Int) (a0_4:Bool) (r:Bool) (w:World) (h:impl_LimitsOk.f a0_0 a0_1 a0_2 a0_3 a0_4=some r) :
  Calls Try.prog 105 #[.agg #[.int .i64 a0_0,.int .i64 a0_1,.int .i64 a0_2,.int .i64 a0_3,.bool a0_4]] w fun e w'=>e=.returned (.bool r)∧Below w.heap.size w w':=by
 have hu44:=Try.underlying44;have HB:=am_ (Below.refl w.heap.size w);have H:=h;clear h;unfold impl_LimitsOk.f at H;replace H:=bm1_ H;obtain⟨t187,A2,H⟩:=H
 by_cases c3:t187=true
 ·subst c3;rw [if_pos rfl]at H;replace H:=bm1_ H;obtain⟨t188,A4,H⟩:=H
  by_cases c5:t188=true
  ·subst c5;rw [if_pos rfl]at H;replace H:=bm1_ H;obtain⟨t189,A6,H⟩:=H
   by_cases c7:t189=true
   ·subst c7;rw [if_pos rfl]at H;replace H:=bm1_ H;obtain⟨t190,A8,H⟩:=H;obtain rfl:=Option.some.inj H
    go_enter Try.func105,Try.ntmps105
    go_wp2_with (first|((with_reducible refine gd_ 1 rfl ?_);refine bv_ 1 #[.int .i64 a0_0,.int .i64 a0_1,.int .i64 a0_2,.int .i64 a0_3,.bool a0_4] 44 ?_;intro gb186 hg w9 hbox hb;have B186:=am_ (hbox);have GW186:=gw_ HB hg;have GE186:=gw_ HB hg;replace HB:=am_ (below_step (be_ HB) hb);clear hb hbox hg;obtain⟨Z10_0,Z10_1,Z10_2,Z10_3,Z10_4,F10_0,F10_1,F10_2,F10_3,F10_4⟩:=bz5_ B186)|((with_reducible refine gc_ 118 rfl ?_);refine gk_ 5 Try.func118 (impl_within.calls a0_0 1 64 true _ A2.out) ?_;rintro e w' ⟨rfl,⟨nd,rfl⟩⟩;refine⟨_,rfl,?_⟩)|(go_at_call 118;(with_reducible refine(impl_within.calls a0_1 1 100000 true _ A4.out).mono ?_);rintro e w' ⟨rfl,⟨nd,rfl⟩⟩)|(go_at_call 118;(with_reducible refine(impl_within.calls a0_2 1 1000000 true _ A6.out).mono ?_);rintro e w' ⟨rfl,⟨nd,rfl⟩⟩)|(go_at_call 118;(with_reducible refine(impl_within.calls a0_3 0 100000 t190 _ A8.out).mono ?_);rintro e w' ⟨rfl,⟨nd,rfl⟩⟩));go_ret;exact⟨er_,bf_ HB⟩
   ·replace c7:=Bool.eq_false_iff.mpr c7;subst c7;rw [if_neg (show ¬ (false=true) by decide)]at H;obtain rfl:=Option.some.inj H
    go_enter Try.func105,Try.ntmps105
    go_wp2_with (first|((with_reducible refine gd_ 1 rfl ?_);refine bv_ 1 #[.int .i64 a0_0,.int .i64 a0_1,.int .i64 a0_2,.int .i64 a0_3,.bool a0_4] 44 ?_;intro gb186 hg w11 hbox hb;have B186:=am_ (hbox);have GW186:=gw_ HB hg;have GE186:=gw_ HB hg;replace HB:=am_ (below_step (be_ HB) hb);clear hb hbox hg;obtain⟨Z12_0,Z12_1,Z12_2,Z12_3,Z12_4,F12_0,F12_1,F12_2,F12_3,F12_4⟩:=bz5_ B186)|((with_reducible refine gc_ 118 rfl ?_);refine gk_ 5 Try.func118 (impl_within.calls a0_0 1 64 true _ A2.out) ?_;rintro e w' ⟨rfl,⟨nd,rfl⟩⟩;refine⟨_,rfl,?_⟩)|(go_at_call 118;(with_reducible refine(impl_within.calls a0_1 1 100000 true _ A4.out).mono ?_);rintro e w' ⟨rfl,⟨nd,rfl⟩⟩)|(go_at_call 118;(with_reducible refine(impl_within.calls a0_2 1 1000000 false _ A6.out).mono ?_);rintro e w' ⟨rfl,⟨nd,rfl⟩⟩));go_ret;exact⟨er_,bf_ HB⟩
  ·replace c5:=Bool.eq_false_iff.mpr c5;subst c5;rw [if_neg (show ¬ (false=true) by decide)]at H;obtain rfl:=Option.some.inj H
   go_enter Try.func105,Try.ntmps105
   go_wp2_with (first|((with_reducible refine gd_ 1 rfl ?_);refine bv_ 1 #[.int .i64 a0_0,.int .i64 a0_1,.int .i64 a0_2,.int .i64 a0_3,.bool a0_4] 44 ?_;intro gb186 hg w13 hbox hb;have B186:=am_ (hbox);have GW186:=gw_ HB hg;have GE186:=gw_ HB hg;replace HB:=am_ (below_step (be_ HB) hb);clear hb hbox hg;obtain⟨Z14_0,Z14_1,Z14_2,Z14_3,Z14_4,F14_0,F14_1,F14_2,F14_3,F14_4⟩:=bz5_ B186)|((with_reducible refine gc_ 118 rfl ?_);refine gk_ 5 Try.func118 (impl_within.calls a0_0 1 64 true _ A2.out) ?_;rintro e w' ⟨rfl,⟨nd,rfl⟩⟩;refine⟨_,rfl,?_⟩)|(go_at_call 118;(with_reducible refine(impl_within.calls a0_1 1 100000 false _ A4.out).mono ?_);rintro e w' ⟨rfl,⟨nd,rfl⟩⟩));go_ret;exact⟨er_,bf_ HB⟩
 ·replace c3:=Bool.eq_false_iff.mpr c3;subst c3;rw [if_neg (show ¬ (false=true) by decide)]at H;obtain rfl:=Option.some.inj H
  go_enter Try.func105,Try.ntmps105
  go_wp2_with (first|((with_reducible refine gd_ 1 rfl ?_);refine bv_ 1 #[.int .i64 a0_0,.int .i64 a0_1,.int .i64 a0_2,.int .i64 a0_3,.bool a0_4] 44 ?_;intro gb186 hg w15 hbox hb;have B186:=am_ (hbox);have GW186:=gw_ HB hg;have GE186:=gw_ HB hg;replace HB:=am_ (below_step (be_ HB) hb);clear hb hbox hg;obtain⟨Z16_0,Z16_1,Z16_2,Z16_3,Z16_4,F16_0,F16_1,F16_2,F16_3,F16_4⟩:=bz5_ B186)|((with_reducible refine gc_ 118 rfl ?_);refine gk_ 5 Try.func118 (impl_within.calls a0_0 1 64 false _ A2.out) ?_;rintro e w' ⟨rfl,⟨nd,rfl⟩⟩;refine⟨_,rfl,?_⟩));go_ret;exact⟨er_,bf_ HB⟩

/-! ### impl_Buf_bytes: function 106 -/
def impl_Buf_bytes.l0:Nat→Int→List (S80)→Int→Int→Option (Int)
  | 0,_,_,_,_=>none
  | k+1,x3,x7,x8,x9=>if x9 < x8 then(if 0≤x9 then(if x9 < (x7.length:Int) then((impl_Lane_bytes.f k ((rd_T80 x7 x9).f0) ((rd_T80 x7 x9).f1)).bind fun t194=>(impl_Buf_bytes.l0 k (wrap64 (x3+t194)) x7 x8 (wrap64 (x9+1)))) else(none)) else(none)) else(some x3)
def impl_Buf_bytes.f (k:Nat) (a0_0:Int) (a0_1:Int) (a0_2:Int) (a0_3:Int) (a0_4:Bool) (l0_5:List (S80)):Option (Int):=impl_Buf_bytes.l0 k 0 l0_5 (l0_5.length:Int) 0
theorem impl_Buf_bytes.mono_l:∀ k,(∀ y0 y1 y2 y3,LeO (impl_Buf_bytes.l0 k y0 y1 y2 y3) (impl_Buf_bytes.l0 (k+1) y0 y1 y2 y3))
 | 0=>fun _ _ _ _ r h=>by simp [impl_Buf_bytes.l0]at h
 | k+1=>by
  have ih0:=impl_Buf_bytes.mono_l k
  ·intro y0 y1 y2 y3;unfold impl_Buf_bytes.l0
   repeat' (first|(with_reducible exact ih0 ..)|(with_reducible exact impl_Lane_bytes.mono _ _ _)|(with_reducible exact LeO.refl _)|(with_reducible exact LeO.none _)|(with_reducible refine LeO.ite ?_ ?_)|(with_reducible refine LeO.bind ?_ (fun _=>?_))|exact ih0 ..|exact impl_Lane_bytes.mono _ _ _|exact LeO.none _|refine LeO.ite ?_ ?_|refine LeO.bind ?_ (fun _=>?_))
theorem impl_Buf_bytes.mono:∀ a0 a1 a2 a3 a4 a5 k,LeO (impl_Buf_bytes.f k a0 a1 a2 a3 a4 a5) (impl_Buf_bytes.f (k+1) a0 a1 a2 a3 a4 a5):=by
 intro a0 a1 a2 a3 a4 a5 k;have ih0:=impl_Buf_bytes.mono_l k;unfold impl_Buf_bytes.f
 repeat' (first|(with_reducible exact ih0 ..)|(with_reducible exact impl_Lane_bytes.mono _ _ _)|(with_reducible exact LeO.refl _)|(with_reducible exact LeO.none _)|(with_reducible refine LeO.ite ?_ ?_)|(with_reducible refine LeO.bind ?_ (fun _=>?_))|exact ih0 ..|exact impl_Lane_bytes.mono _ _ _|exact LeO.none _|refine LeO.ite ?_ ?_|refine LeO.bind ?_ (fun _=>?_))
set_option maxHeartbeats 80000000 in
set_option maxRecDepth 100000 in
theorem impl_Buf_bytes.calls (k:Nat) (a0_0:Int) (a0_1:Int) (a0_2:Int) (a0_3:Int) (a0_4:Bool) (A0_5:Option Addr) (c0_5:Nat) (l0_5:List (S80)) (r:Int) (w:World) (hr0_5:Kd.C k80 w A0_5 l0_5.length l0_5) (hc0_5:l0_5.length≤c0_5) (h:impl_Buf_bytes.f k a0_0 a0_1 a0_2 a0_3 a0_4 l0_5=some r) :
  Calls Try.prog 106 #[.agg #[.int .i64 a0_0,.int .i64 a0_1,.int .i64 a0_2,.int .i64 a0_3,.bool a0_4,.slice A0_5 l0_5.length c0_5]] w fun e w'=>e=.returned (.int .i64 r)∧Below w.heap.size w w':=by
 have hu47:=Try.underlying47;have hu80:=Try.underlying80;have HR0_5:=am_ hr0_5;have HC0_5:=am_ hc0_5;clear hr0_5 hc0_5;have HB:=am_ (Below.refl w.heap.size w);have H:=h;clear h;unfold impl_Buf_bytes.f at H;have H':=am_ H;clear H
 go_enter Try.func106,Try.ntmps106
 go_wp2_with (first|((with_reducible refine gd_ 1 rfl ?_);refine bv_ 1 #[.int .i64 a0_0,.int .i64 a0_1,.int .i64 a0_2,.int .i64 a0_3,.bool a0_4,.slice A0_5 l0_5.length c0_5] 47 ?_;intro gb191 hg w2 hbox hb;have B191:=am_ (hbox);have GW191:=gw_ HB hg;have GE191:=gw_ HB hg;replace HB:=am_ (below_step (be_ HB) hb);clear hb hbox hg;obtain⟨Z3_0,Z3_1,Z3_2,Z3_3,Z3_4,Z3_5,F3_0,F3_1,F3_2,F3_3,F3_4,F3_5⟩:=bz6_ B191));(try simp only [Act.put,ls0_,ls1_,ls2_])
 go_loopg [3,9] k (fun kq v3 v9 w'=>∃ (x3_1:Int) (x9_1:Int),v3=.int .i64 x3_1∧v9=.int .i64 x9_1∧Aside0 (impl_Buf_bytes.l0 kq x3_1 l0_5 (l0_5.length:Int) x9_1=some r)∧Aside0 (kq≤k)∧Aside0 (w'.heap[gb191]?=some (.cells #[.int .i64 a0_0,.int .i64 a0_1,.int .i64 a0_2,.int .i64 a0_3,.bool a0_4,(.slice A0_5 l0_5.length c0_5)] 47 (0,0)))∧Aside0 (Below w.heap.size w w'))
 case atStart=>exact⟨(0),(0),re_,re_,H',⟨Nat.le_refl _⟩,⟨bk_ B191⟩,⟨bf_ HB⟩⟩
 case round =>
  clear H';(try clear Z3_0 Z3_1 Z3_2 Z3_3 Z3_4 Z3_5 F3_0 F3_1 F3_2 F3_3 F3_4 F3_5);obtain⟨x3_1,x9_1,rfl,rfl,HA,HK1,B191,HB⟩:=hrel
  cases gk with
  | zero=>exact absurd HA.out (by simp [impl_Buf_bytes.l0])
  | succ k1 =>
   have H:=HA.out;clear HA;simp only [impl_Buf_bytes.l0]at H
   by_cases c4:x9_1 < (l0_5.length:Int)
   ·rw [if_pos c4]at H;have c4b0:decide (x9_1 < (l0_5.length:Int))=true:=decide_eq_true c4;clear c4
    by_cases c5:0≤x9_1
    ·rw [if_pos c5]at H;have c5b0:decide (0≤x9_1)=true:=decide_eq_true c5;clear c5
     by_cases c6:x9_1 < (l0_5.length:Int)
     ·rw [if_pos c6]at H;have c6b0:decide (x9_1 < (l0_5.length:Int))=true:=decide_eq_true c6;clear c6;replace H:=bm1_ H;obtain⟨t194,A7,H⟩:=H;have H':=am_ H;clear H;have p192:0≤(x9_1:Int):=od_;have q192:x9_1 < (l0_5.length:Int):=od_;obtain⟨ad192,A192_1,c192_1,e192,hx192_0,hx192_1,hl192_1,hi192_1⟩:=at_T80 HR0_5.out x9_1 p192 q192;cases e192;replace hx192_0:=hb_ HB hx192_0;replace hx192_1:=hb_ HB hx192_1;have HR192_1:=am_ hi192_1;have HC192_1:=am_ hl192_1;clear hi192_1 hl192_1;replace p192:=eq_true p192;replace q192:=eq_true q192;go_wp2_with (first|((with_reducible refine gd_ 5 rfl ?_);refine bv_ 5 #[.int .i64 0,.slice none 0 0] 80 ?_;intro gb193 hg w8 hbox hb;have B193:=am_ (hbox);have GW193:=gw_ HB hg;have GE193:=gw_ HB hg;replace HB:=sb_ HB hb;have D191_193:=nl_ B191 hg;have D193_191:=ng_ B191 hg;replace B191:=bb_ B191 hb;clear hb hbox hg;obtain⟨hnb9,hnc9⟩:=nn_ D193_191;obtain⟨Z10_0,Z10_1,F10_0,F10_1⟩:=bz2_ B193)|((with_reducible refine gc_ 86 rfl ?_);refine gk_ 15 Try.func86 (impl_Lane_bytes.calls k1 ((rd_T80 l0_5 x9_1).f0) _ _ ((rd_T80 l0_5 x9_1).f1) t194 _ ?side1 ?side2 A7.out) ?_;(case side1=>exact Kd.C_below HR192_1.out (bf_ HB));(case side2=>exact HC192_1.out);rintro e w11 ⟨rfl,hb⟩;refine⟨_,rfl,?_⟩;replace B191:=bm_ B191 hb;replace B193:=am_ (blk_below (g:=gb193) (o:=.cells #[.int .i64 ((rd_T80 l0_5 x9_1).f0),.slice A192_1 ((rd_T80 l0_5 x9_1).f1).length c192_1] 80 (0,0)) (bq_ B193) hb);replace HB:=sb_ HB hb;clear hb))
      go_roundg k1
      case measure=>have:=HK1.out;omega
      case rel=>exact⟨(wrap64 (x3_1+t194)),(wrap64 (x9_1+1)),re_,re_,H',⟨by have:=HK1.out;omega⟩,⟨bk_ B191⟩,⟨bf_ HB⟩⟩
     ·rw [if_neg c6]at H;exact absurd H (by simp)
    ·rw [if_neg c5]at H;exact absurd H (by simp)
   ·rw [if_neg c4]at H;have c4b0:decide (x9_1 < (l0_5.length:Int))=false:=decide_eq_false c4;clear c4;obtain rfl:=Option.some.inj H;go_wp2;go_ret;exact⟨er_,bf_ HB⟩

end Go.Proofs.Ytnklakficjpmoaa.PFnExactBufClear
