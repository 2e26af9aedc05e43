-- printed by a program of this session (wip/printx) out of the translation; Lean checks it
import Derived.Test.YtnklakficjpmoaaVFnExactBufClear
import Derived.Test.YtnklakficjpmoaaPFnExactBufClearx0
import Derived.Test.YtnklakficjpmoaaPFnExactBufClearx1
namespace Go.Proofs.Ytnklakficjpmoaa.PFnExactBufClear
open Go.RowKit Go.Proofs.YtnklakficjpmoaaW.PrintWords Go.Proofs.YtnklakficjpmoaaW.PrintLast Go.Proofs.YtnklakficjpmoaaW.PrintMore
attribute [local go_sem] max2_int min2_int max_two min_two max_three min_three max_four min_four   -- for this text's walks alone
set_option linter.unusedVariables false
set_option linter.unusedSimpArgs false

/-! ### laws_eqHeldS: function 152 -/
def laws_eqHeldS.l0:Nat→List (S52)→List (S52)→Int→Option (Bool)
  | 0,_,_,_=>none
  | k+1,x0,x1,x5=>if x5 < (x0.length:Int) then(if 0≤x5 then(if x5 < (x1.length:Int) then((laws_eqHeld.f ((rd_T52 x0 x5).f0) ((rd_T52 x0 x5).f1) ((rd_T52 x1 x5).f0) ((rd_T52 x1 x5).f1)).bind fun t152=>(if t152=true then(laws_eqHeldS.l0 k x0 x1 (wrap64 (x5+1))) else(some false))) else(none)) else(none)) else(some true)
def laws_eqHeldS.f (k:Nat) (l0:List (S52)) (l1:List (S52)):Option (Bool):=if (l0.length:Int)=(l1.length:Int) then(laws_eqHeldS.l0 k l0 l1 0) else(some false)
theorem laws_eqHeldS.mono_l:∀ k,(∀ y0 y1 y2,LeO (laws_eqHeldS.l0 k y0 y1 y2) (laws_eqHeldS.l0 (k+1) y0 y1 y2))
 | 0=>fun _ _ _ r h=>by simp [laws_eqHeldS.l0]at h
 | k+1=>by
  have ih0:=laws_eqHeldS.mono_l k
  ·intro y0 y1 y2;unfold laws_eqHeldS.l0
   repeat' (first|(with_reducible exact ih0 ..)|(with_reducible exact LeO.refl _)|(with_reducible exact LeO.none _)|(with_reducible refine LeO.ite ?_ ?_)|(with_reducible refine LeO.bind ?_ (fun _=>?_))|exact ih0 ..|exact LeO.none _|refine LeO.ite ?_ ?_|refine LeO.bind ?_ (fun _=>?_))
theorem laws_eqHeldS.mono:∀ a0 a1 k,LeO (laws_eqHeldS.f k a0 a1) (laws_eqHeldS.f (k+1) a0 a1):=by
 intro a0 a1 k;have ih0:=laws_eqHeldS.mono_l k;unfold laws_eqHeldS.f
 repeat' (first|(with_reducible exact ih0 ..)|(with_reducible exact LeO.refl _)|(with_reducible exact LeO.none _)|(with_reducible refine LeO.ite ?_ ?_)|(with_reducible refine LeO.bind ?_ (fun _=>?_))|exact ih0 ..|exact LeO.none _|refine LeO.ite ?_ ?_|refine LeO.bind ?_ (fun _=>?_))
def laws_eqHeldS.T6:Bool × List (List Nat × List Nat):=(true,[([],[]),([],[]),([0,1],[0,1]),([2],[2]),([],[]),([],[]),([4,5],[4,5]),([6],[6]),([3,7],[3,7]),([8],[8])])
def laws_eqHeldS.B6:List Nat:=[0,0,3,7,0,0,48,112,255,511]
theorem laws_eqHeldS.tab6:rtab .any (opsOf Try.f152 6)=laws_eqHeldS.T6:=by kernel_rfl
theorem laws_eqHeldS.bits6:waitsOk laws_eqHeldS.T6.2 laws_eqHeldS.B6=true:=by kernel_rfl
set_option maxHeartbeats 80000000 in
set_option maxRecDepth 100000 in
theorem laws_eqHeldS.calls (k:Nat) (A0:Option Addr) (c0:Nat) (l0:List (S52)) (A1:Option Addr) (c1:Nat) (l1:List (S52)) (r:Bool) (w:World) (hr0:Kd.C k52 w A0 l0.length l0) (hc0:l0.length≤c0) (hr1:Kd.C k52 w A1 l1.length l1) (hc1:l1.length≤c1) (h:laws_eqHeldS.f k l0 l1=some r) :
  Calls Try.prog 152 #[.slice A0 l0.length c0,.slice A1 l1.length c1] w fun e w'=>e=.returned (.bool r)∧Below w.heap.size w w':=by
 have hu52:=Try.underlying52;have HR0:=am_ hr0;have HC0:=am_ hc0;clear hr0 hc0;have HR1:=am_ hr1;have HC1:=am_ hc1;clear hr1 hc1;have HB:=am_ (Below.refl w.heap.size w);have H:=h;clear h;unfold laws_eqHeldS.f at H
 by_cases c3:(l0.length:Int)=(l1.length:Int)
 ·rw [if_pos c3]at H;have c3b0:((l0.length:Int) == (l1.length:Int))=true:=beq_iff_eq.mpr c3;have c3b1:((l0.length:Int) != (l1.length:Int))=false:=bne_eq_false_iff_eq.mpr c3;have c3b2:(l0.length == l1.length)=true:=(by first|simpa using c3|(simp at c3 ⊢;omega));clear c3;have H':=am_ H;clear H
  go_enter Try.func152,Try.ntmps152
  go_wp2
  go_loopg [5] k (fun kq v5 w'=>∃ (x5_1:Int),v5=.int .i64 x5_1∧Aside0 (laws_eqHeldS.l0 kq l0 l1 x5_1=some r)∧Aside0 (kq≤k)∧Aside0 (Below w.heap.size w w'))
  case atStart=>exact⟨(0),re_,H',⟨Nat.le_refl _⟩,⟨be_ HB⟩⟩
  case round =>
   clear H';(try clear c1);(try clear c3);(try clear c3b0);(try clear c3b1);(try clear c3b2);obtain⟨x5_1,rfl,HA,HK1,HB⟩:=hrel
   cases gk with
   | zero=>exact absurd HA.out (by simp [laws_eqHeldS.l0])
   | succ k1 =>
    have H:=HA.out;clear HA;simp only [laws_eqHeldS.l0]at H
    by_cases c4:x5_1 < (l0.length:Int)
    ·rw [if_pos c4]at H;have c4b0:decide (x5_1 < (l0.length:Int))=true:=decide_eq_true c4;clear c4
     by_cases c5:0≤x5_1
     ·rw [if_pos c5]at H;have c5b0:decide (0≤x5_1)=true:=decide_eq_true c5;clear c5
      by_cases c6:x5_1 < (l1.length:Int)
      ·rw [if_pos c6]at H;have c6b0:decide (x5_1 < (l1.length:Int))=true:=decide_eq_true c6;clear c6;replace H:=bm1_ H;obtain⟨t152,A7,H⟩:=H
       by_cases c8:t152=true
       ·subst c8;rw [if_pos rfl]at H;have H':=am_ H;clear H
        try go_wp2
        replace HB:=be1_ HB;have p150:0≤(x5_1:Int):=od_;have q150:x5_1 < (l0.length:Int):=od_;obtain⟨ad150,e150,hw150_0,hw150_1⟩:=at_T52 HR0.out x5_1 p150 q150;cases e150;obtain⟨hx150_0,hx150_1⟩:=hb2_ HB hw150_0 hw150_1;replace p150:=eq_true p150;replace q150:=eq_true q150;have p151:0≤(x5_1:Int):=od_;have q151:x5_1 < (l1.length:Int):=od_;obtain⟨ad151,e151,hw151_0,hw151_1⟩:=at_T52 HR1.out x5_1 p151 q151;cases e151;obtain⟨hx151_0,hx151_1⟩:=hb2_ HB hw151_0 hw151_1;replace p151:=eq_true p151;replace q151:=eq_true q151;refine start_ (n:=10) (S:=fun w'=>ce2_ w' (ad150.add ((x5_1).toNat * 2)) (.int .i64 ((rd_T52 l0 x5_1).f0)) (.int .i64 ((rd_T52 l0 x5_1).f1)) (cg2_ w' (ad151.add ((x5_1).toNat * 2)) (.int .i64 ((rd_T52 l1 x5_1).f0)) (.int .i64 ((rd_T52 l1 x5_1).f1)))) (ds:=[]) (bs 10 0) (by kernel_rfl) rfl rfl ⟨(hd_ HB hw150_0),(hd_ HB hw150_1),(hd_ HB hw151_0),(hd_ HB hw151_1)⟩ (fun hH=>?_);refine with_tabW laws_eqHeldS.tab6 laws_eqHeldS.bits6 (fun HT_ HW_=>?_);generalize wr.drew=w9 at HB hx150_0 hx150_1 hx151_0 hx151_1 hH ⊢;(iterate 3 (refine psn_ HT_ ?_));refine ps_ 4 21 (bm 10 23) HT_ ?_;refine ps_ 5 22 (bm 10 55) HT_ ?_;refine ps_ 6 23 (bm 10 119) HT_ ?_;refine tk_ 3 20 (bs 10 7) HT_ HW_ hH ?_;refine tkn_ HT_ HW_ hH ?_;refine on_ 8 (some 25) (bs 10 9) HT_ (fun K hK=>?_);refine gz_ Try.func60 (laws_eqHeld.calls ((rd_T52 l0 x5_1).f0) ((rd_T52 l0 x5_1).f1) ((rd_T52 l1 x5_1).f0) ((rd_T52 l1 x5_1).f1) true _ A7.out) ?_;rintro e w10 ⟨rfl,hb⟩;refine⟨_,rfl,?_⟩;replace HB:=am_ (below_step (be_ HB) hb);(try clear hb);refine hK.out _ _ ⟨(hd_ HB hw150_0),(hd_ HB hw150_1),(hd_ HB hw151_0),(hd_ HB hw151_1)⟩ (fun hH=>?_);clear hK K;refine norm_ (a':=?_) ?_ ?_;rotate_left
        ·show Act.put _ (some 25) _=_;simp only [Act.put,ls0_,ls1_,ls2_,i64_w,i32_w];rfl
        refine psn_ HT_ ?_;refine done_ (done_of HT_.out (by kernel_rfl)) ?_
        try go_wp2
        go_roundg k1
        case measure=>have:=HK1.out;omega
        case rel=>exact⟨(wrap64 (x5_1+1)),re_,H',⟨by have:=HK1.out;omega⟩,⟨be_ HB⟩⟩
       ·replace c8:=Bool.eq_false_iff.mpr c8;subst c8;rw [if_neg (show ¬ (false=true) by decide)]at H;obtain rfl:=Option.some.inj H
        try go_wp2
        replace HB:=be1_ HB;have p150:0≤(x5_1:Int):=od_;have q150:x5_1 < (l0.length:Int):=od_;obtain⟨ad150,e150,hw150_0,hw150_1⟩:=at_T52 HR0.out x5_1 p150 q150;cases e150;obtain⟨hx150_0,hx150_1⟩:=hb2_ HB hw150_0 hw150_1;replace p150:=eq_true p150;replace q150:=eq_true q150;have p151:0≤(x5_1:Int):=od_;have q151:x5_1 < (l1.length:Int):=od_;obtain⟨ad151,e151,hw151_0,hw151_1⟩:=at_T52 HR1.out x5_1 p151 q151;cases e151;obtain⟨hx151_0,hx151_1⟩:=hb2_ HB hw151_0 hw151_1;replace p151:=eq_true p151;replace q151:=eq_true q151;refine start_ (n:=10) (S:=fun w'=>ce2_ w' (ad150.add ((x5_1).toNat * 2)) (.int .i64 ((rd_T52 l0 x5_1).f0)) (.int .i64 ((rd_T52 l0 x5_1).f1)) (cg2_ w' (ad151.add ((x5_1).toNat * 2)) (.int .i64 ((rd_T52 l1 x5_1).f0)) (.int .i64 ((rd_T52 l1 x5_1).f1)))) (ds:=[]) (bs 10 0) (by kernel_rfl) rfl rfl ⟨(hd_ HB hw150_0),(hd_ HB hw150_1),(hd_ HB hw151_0),(hd_ HB hw151_1)⟩ (fun hH=>?_);refine with_tabW laws_eqHeldS.tab6 laws_eqHeldS.bits6 (fun HT_ HW_=>?_);generalize wr.drew=w11 at HB hx150_0 hx150_1 hx151_0 hx151_1 hH ⊢;(iterate 3 (refine psn_ HT_ ?_));refine ps_ 4 21 (bm 10 23) HT_ ?_;refine ps_ 5 22 (bm 10 55) HT_ ?_;refine ps_ 6 23 (bm 10 119) HT_ ?_;refine tk_ 3 20 (bs 10 7) HT_ HW_ hH ?_;refine tkn_ HT_ HW_ hH ?_;refine on_ 8 (some 25) (bs 10 9) HT_ (fun K hK=>?_);refine gz_ Try.func60 (laws_eqHeld.calls ((rd_T52 l0 x5_1).f0) ((rd_T52 l0 x5_1).f1) ((rd_T52 l1 x5_1).f0) ((rd_T52 l1 x5_1).f1) false _ A7.out) ?_;rintro e w12 ⟨rfl,hb⟩;refine⟨_,rfl,?_⟩;replace HB:=am_ (below_step (be_ HB) hb);(try clear hb);refine hK.out _ _ ⟨(hd_ HB hw150_0),(hd_ HB hw150_1),(hd_ HB hw151_0),(hd_ HB hw151_1)⟩ (fun hH=>?_);clear hK K;refine norm_ (a':=?_) ?_ ?_;rotate_left
        ·show Act.put _ (some 25) _=_;simp only [Act.put,ls0_,ls1_,ls2_,i64_w,i32_w];rfl
        refine psn_ HT_ ?_;refine done_ (done_of HT_.out (by kernel_rfl)) ?_
        try go_wp2
        go_ret;exact⟨er_,be_ HB⟩
      ·rw [if_neg c6]at H;exact absurd H (by simp)
     ·rw [if_neg c5]at H;exact absurd H (by simp)
    ·rw [if_neg c4]at H;have c4b0:decide (x5_1 < (l0.length:Int))=false:=decide_eq_false c4;clear c4;obtain rfl:=Option.some.inj H;go_wp2;go_ret;exact⟨er_,be_ HB⟩
 ·rw [if_neg c3]at H;have c3b0:((l0.length:Int) == (l1.length:Int))=false:=beq_eq_false_iff_ne.mpr c3;have c3b1:((l0.length:Int) != (l1.length:Int))=true:=bne_iff_ne.mpr c3;have c3b2:(l0.length == l1.length)=false:=(by first|simpa using c3|(simp at c3 ⊢;omega));obtain rfl:=Option.some.inj H
  go_enter Try.func152,Try.ntmps152
  go_wp2;go_ret;exact⟨er_,be_ HB⟩

/-! ### laws_eqLane: function 128 -/
def laws_eqLane.f (k:Nat) (a0_0:Int) (l0_1:List (S52)) (a1_0:Int) (l1_1:List (S52)):Option (Bool):=if a0_0=a1_0 then((laws_eqHeldS.f k l0_1 l1_1).bind fun t155=>(if t155=true then(some true) else(some false))) else(some false)
theorem laws_eqLane.mono:∀ a0 a1 a2 a3 k,LeO (laws_eqLane.f k a0 a1 a2 a3) (laws_eqLane.f (k+1) a0 a1 a2 a3):=by
 intro a0 a1 a2 a3 k;unfold laws_eqLane.f
 repeat' (first|(with_reducible exact laws_eqHeldS.mono _ _ _)|(with_reducible exact LeO.refl _)|(with_reducible exact LeO.none _)|(with_reducible refine LeO.ite ?_ ?_)|(with_reducible refine LeO.bind ?_ (fun _=>?_))|exact laws_eqHeldS.mono _ _ _|exact LeO.none _|refine LeO.ite ?_ ?_|refine LeO.bind ?_ (fun _=>?_))
set_option maxHeartbeats 80000000 in
set_option maxRecDepth 100000 in
theorem laws_eqLane.calls (k:Nat) (a0_0:Int) (A0_1:Option Addr) (c0_1:Nat) (l0_1:List (S52)) (a1_0:Int) (A1_1:Option Addr) (c1_1:Nat) (l1_1:List (S52)) (r:Bool) (w:World) (hr0_1:Kd.C k52 w A0_1 l0_1.length l0_1) (hc0_1:l0_1.length≤c0_1) (hr1_1:Kd.C k52 w A1_1 l1_1.length l1_1) (hc1_1:l1_1.length≤c1_1) (h:laws_eqLane.f k a0_0 l0_1 a1_0 l1_1=some r) :
  Calls Try.prog 128 #[.agg #[.int .i64 a0_0,.slice A0_1 l0_1.length c0_1],.agg #[.int .i64 a1_0,.slice A1_1 l1_1.length c1_1]] w fun e w'=>e=.returned (.bool r)∧Below w.heap.size w w':=by
 have hu80:=Try.underlying80;have HR0_1:=am_ hr0_1;have HC0_1:=am_ hc0_1;clear hr0_1 hc0_1;have HR1_1:=am_ hr1_1;have HC1_1:=am_ hc1_1;clear hr1_1 hc1_1;have HB:=am_ (Below.refl w.heap.size w);have H:=h;clear h;unfold laws_eqLane.f at H
 by_cases c3:a0_0=a1_0
 ·rw [if_pos c3]at H;have c3b0:(a0_0 == a1_0)=true:=beq_iff_eq.mpr c3;have c3b1:(a0_0 != a1_0)=false:=bne_eq_false_iff_eq.mpr c3;clear c3;replace H:=bm1_ H;obtain⟨t155,A4,H⟩:=H
  by_cases c5:t155=true
  ·subst c5;rw [if_pos rfl]at H;obtain rfl:=Option.some.inj H
   go_enter Try.func128,Try.ntmps128
   go_wp2_with (first|((with_reducible refine gd_ 2 rfl ?_);refine bv_ 2 #[.int .i64 a0_0,.slice A0_1 l0_1.length c0_1] 80 ?_;intro gb153 hg w6 hbox hb;have B153:=am_ (hbox);have GW153:=gw_ HB hg;have GE153:=gw_ HB hg;replace HB:=am_ (below_step (be_ HB) hb);clear hb hbox hg)|((with_reducible refine gd_ 3 rfl ?_);refine bv_ 3 #[.int .i64 a1_0,.slice A1_1 l1_1.length c1_1] 80 ?_;intro gb154 hg w7 hbox hb;have B154:=am_ (hbox);have GW154:=gw_ HB hg;have GE154:=gw_ HB hg;replace HB:=sb_ HB hb;have D153_154:=nl_ B153 hg;have D154_153:=ng_ B153 hg;replace B153:=bb_ B153 hb;clear hb hbox hg;obtain⟨hnb8,hnc8⟩:=nn_ D153_154;obtain⟨Z9_0,Z9_1,F9_0,F9_1⟩:=bz2_ B153;obtain⟨Z10_0,Z10_1,F10_0,F10_1⟩:=bz2_ B154)|((with_reducible refine gc_ 152 rfl ?_);refine gk_ 14 Try.func152 (laws_eqHeldS.calls k _ _ l0_1 _ _ l1_1 true _ ?side1 ?side2 ?side3 ?side4 A4.out) ?_;(case side1=>repeat (first|exact(Kd.C_below HR0_1.out HB.out)|(with_reducible refine Kd.C_alloc ?_ _)|(with_reducible refine Kd.C_drewN ?_ _)|(with_reducible refine Kd.C_drew ?_)));(case side2=>exact HC0_1.out);(case side3=>repeat (first|exact(Kd.C_below HR1_1.out HB.out)|(with_reducible refine Kd.C_alloc ?_ _)|(with_reducible refine Kd.C_drewN ?_ _)|(with_reducible refine Kd.C_drew ?_)));(case side4=>exact HC1_1.out);rintro e w11 ⟨rfl,hb⟩;refine⟨_,rfl,?_⟩;replace B153:=bb_ B153 hb;replace B154:=bb_ B154 hb;replace HB:=sb_ HB hb;clear hb));go_ret;exact⟨er_,bf_ HB⟩
  ·replace c5:=Bool.eq_false_iff.mpr c5;subst c5;rw [if_neg (show ¬ (false=true) by decide)]at H;obtain rfl:=Option.some.inj H
   go_enter Try.func128,Try.ntmps128
   go_wp2_with (first|((with_reducible refine gd_ 2 rfl ?_);refine bv_ 2 #[.int .i64 a0_0,.slice A0_1 l0_1.length c0_1] 80 ?_;intro gb153 hg w12 hbox hb;have B153:=am_ (hbox);have GW153:=gw_ HB hg;have GE153:=gw_ HB hg;replace HB:=am_ (below_step (be_ HB) hb);clear hb hbox hg)|((with_reducible refine gd_ 3 rfl ?_);refine bv_ 3 #[.int .i64 a1_0,.slice A1_1 l1_1.length c1_1] 80 ?_;intro gb154 hg w13 hbox hb;have B154:=am_ (hbox);have GW154:=gw_ HB hg;have GE154:=gw_ HB hg;replace HB:=sb_ HB hb;have D153_154:=nl_ B153 hg;have D154_153:=ng_ B153 hg;replace B153:=bb_ B153 hb;clear hb hbox hg;obtain⟨hnb14,hnc14⟩:=nn_ D153_154;obtain⟨Z15_0,Z15_1,F15_0,F15_1⟩:=bz2_ B153;obtain⟨Z16_0,Z16_1,F16_0,F16_1⟩:=bz2_ B154)|((with_reducible refine gc_ 152 rfl ?_);refine gk_ 14 Try.func152 (laws_eqHeldS.calls k _ _ l0_1 _ _ l1_1 false _ ?side1 ?side2 ?side3 ?side4 A4.out) ?_;(case side1=>repeat (first|exact(Kd.C_below HR0_1.out HB.out)|(with_reducible refine Kd.C_alloc ?_ _)|(with_reducible refine Kd.C_drewN ?_ _)|(with_reducible refine Kd.C_drew ?_)));(case side2=>exact HC0_1.out);(case side3=>repeat (first|exact(Kd.C_below HR1_1.out HB.out)|(with_reducible refine Kd.C_alloc ?_ _)|(with_reducible refine Kd.C_drewN ?_ _)|(with_reducible refine Kd.C_drew ?_)));(case side4=>exact HC1_1.out);rintro e w17 ⟨rfl,hb⟩;refine⟨_,rfl,?_⟩;replace B153:=bb_ B153 hb;replace B154:=bb_ B154 hb;replace HB:=sb_ HB hb;clear hb));go_ret;exact⟨er_,bf_ HB⟩
 ·rw [if_neg c3]at H;have c3b0:(a0_0 == a1_0)=false:=beq_eq_false_iff_ne.mpr c3;have c3b1:(a0_0 != a1_0)=true:=bne_iff_ne.mpr c3;obtain rfl:=Option.some.inj H
  go_enter Try.func128,Try.ntmps128
  go_wp2_with (first|((with_reducible refine gd_ 2 rfl ?_);refine bv_ 2 #[.int .i64 a0_0,.slice A0_1 l0_1.length c0_1] 80 ?_;intro gb153 hg w18 hbox hb;have B153:=am_ (hbox);have GW153:=gw_ HB hg;have GE153:=gw_ HB hg;replace HB:=am_ (below_step (be_ HB) hb);clear hb hbox hg)|((with_reducible refine gd_ 3 rfl ?_);refine bv_ 3 #[.int .i64 a1_0,.slice A1_1 l1_1.length c1_1] 80 ?_;intro gb154 hg w19 hbox hb;have B154:=am_ (hbox);have GW154:=gw_ HB hg;have GE154:=gw_ HB hg;replace HB:=sb_ HB hb;have D153_154:=nl_ B153 hg;have D154_153:=ng_ B153 hg;replace B153:=bb_ B153 hb;clear hb hbox hg;obtain⟨hnb20,hnc20⟩:=nn_ D153_154;obtain⟨Z21_0,Z21_1,F21_0,F21_1⟩:=bz2_ B153;obtain⟨Z22_0,Z22_1,F22_0,F22_1⟩:=bz2_ B154));go_ret;exact⟨er_,bf_ HB⟩

/-! ### laws_eqLaneS: function 90 -/
def laws_eqLaneS.l0:Nat→List (S80)→List (S80)→Int→Option (Bool)
  | 0,_,_,_=>none
  | k+1,x0,x1,x5=>if x5 < (x0.length:Int) then(if 0≤x5 then(if x5 < (x1.length:Int) then((laws_eqLane.f k ((rd_T80 x0 x5).f0) ((rd_T80 x0 x5).f1) ((rd_T80 x1 x5).f0) ((rd_T80 x1 x5).f1)).bind fun t158=>(if t158=true then(laws_eqLaneS.l0 k x0 x1 (wrap64 (x5+1))) else(some false))) else(none)) else(none)) else(some true)
def laws_eqLaneS.f (k:Nat) (l0:List (S80)) (l1:List (S80)):Option (Bool):=if (l0.length:Int)=(l1.length:Int) then(laws_eqLaneS.l0 k l0 l1 0) else(some false)
theorem laws_eqLaneS.mono_l:∀ k,(∀ y0 y1 y2,LeO (laws_eqLaneS.l0 k y0 y1 y2) (laws_eqLaneS.l0 (k+1) y0 y1 y2))
 | 0=>fun _ _ _ r h=>by simp [laws_eqLaneS.l0]at h
 | k+1=>by
  have ih0:=laws_eqLaneS.mono_l k
  ·intro y0 y1 y2;unfold laws_eqLaneS.l0
   repeat' (first|(with_reducible exact ih0 ..)|(with_reducible exact laws_eqLane.mono _ _ _ _ _)|(with_reducible exact LeO.refl _)|(with_reducible exact LeO.none _)|(with_reducible refine LeO.ite ?_ ?_)|(with_reducible refine LeO.bind ?_ (fun _=>?_))|exact ih0 ..|exact laws_eqLane.mono _ _ _ _ _|exact LeO.none _|refine LeO.ite ?_ ?_|refine LeO.bind ?_ (fun _=>?_))
theorem laws_eqLaneS.mono:∀ a0 a1 k,LeO (laws_eqLaneS.f k a0 a1) (laws_eqLaneS.f (k+1) a0 a1):=by
 intro a0 a1 k;have ih0:=laws_eqLaneS.mono_l k;unfold laws_eqLaneS.f
 repeat' (first|(with_reducible exact ih0 ..)|(with_reducible exact laws_eqLane.mono _ _ _ _ _)|(with_reducible exact LeO.refl _)|(with_reducible exact LeO.none _)|(with_reducible refine LeO.ite ?_ ?_)|(with_reducible refine LeO.bind ?_ (fun _=>?_))|exact ih0 ..|exact laws_eqLane.mono _ _ _ _ _|exact LeO.none _|refine LeO.ite ?_ ?_|refine LeO.bind ?_ (fun _=>?_))
def laws_eqLaneS.T6:Bool × List (List Nat × List Nat):=(true,[([],[]),([],[]),([0,1],[0,1]),([2],[2]),([],[]),([],[]),([4,5],[4,5]),([6],[6]),([3,7],[3,7]),([8],[8])])
def laws_eqLaneS.B6:List Nat:=[0,0,3,7,0,0,48,112,255,511]
theorem laws_eqLaneS.tab6:rtab .any (opsOf Try.f90 6)=laws_eqLaneS.T6:=by kernel_rfl
theorem laws_eqLaneS.bits6:waitsOk laws_eqLaneS.T6.2 laws_eqLaneS.B6=true:=by kernel_rfl
set_option maxHeartbeats 80000000 in
set_option maxRecDepth 100000 in
theorem laws_eqLaneS.calls (k:Nat) (A0:Option Addr) (c0:Nat) (l0:List (S80)) (A1:Option Addr) (c1:Nat) (l1:List (S80)) (r:Bool) (w:World) (hr0:Kd.C k80 w A0 l0.length l0) (hc0:l0.length≤c0) (hr1:Kd.C k80 w A1 l1.length l1) (hc1:l1.length≤c1) (h:laws_eqLaneS.f k l0 l1=some r) :
  Calls Try.prog 90 #[.slice A0 l0.length c0,.slice A1 l1.length c1] w fun e w'=>e=.returned (.bool r)∧Below w.heap.size w w':=by
 have hu80:=Try.underlying80;have HR0:=am_ hr0;have HC0:=am_ hc0;clear hr0 hc0;have HR1:=am_ hr1;have HC1:=am_ hc1;clear hr1 hc1;have HB:=am_ (Below.refl w.heap.size w);have H:=h;clear h;unfold laws_eqLaneS.f at H
 by_cases c3:(l0.length:Int)=(l1.length:Int)
 ·rw [if_pos c3]at H;have c3b0:((l0.length:Int) == (l1.length:Int))=true:=beq_iff_eq.mpr c3;have c3b1:((l0.length:Int) != (l1.length:Int))=false:=bne_eq_false_iff_eq.mpr c3;have c3b2:(l0.length == l1.length)=true:=(by first|simpa using c3|(simp at c3 ⊢;omega));clear c3;have H':=am_ H;clear H
  go_enter Try.func90,Try.ntmps90
  go_wp2
  go_loopg [5] k (fun kq v5 w'=>∃ (x5_1:Int),v5=.int .i64 x5_1∧Aside0 (laws_eqLaneS.l0 kq l0 l1 x5_1=some r)∧Aside0 (kq≤k)∧Aside0 (Below w.heap.size w w'))
  case atStart=>exact⟨(0),re_,H',⟨Nat.le_refl _⟩,⟨be_ HB⟩⟩
  case round =>
   clear H';(try clear c1);(try clear c3);(try clear c3b0);(try clear c3b1);(try clear c3b2);obtain⟨x5_1,rfl,HA,HK1,HB⟩:=hrel
   cases gk with
   | zero=>exact absurd HA.out (by simp [laws_eqLaneS.l0])
   | succ k1 =>
    have H:=HA.out;clear HA;simp only [laws_eqLaneS.l0]at H
    by_cases c4:x5_1 < (l0.length:Int)
    ·rw [if_pos c4]at H;have c4b0:decide (x5_1 < (l0.length:Int))=true:=decide_eq_true c4;clear c4
     by_cases c5:0≤x5_1
     ·rw [if_pos c5]at H;have c5b0:decide (0≤x5_1)=true:=decide_eq_true c5;clear c5
      by_cases c6:x5_1 < (l1.length:Int)
      ·rw [if_pos c6]at H;have c6b0:decide (x5_1 < (l1.length:Int))=true:=decide_eq_true c6;clear c6;replace H:=bm1_ H;obtain⟨t158,A7,H⟩:=H
       by_cases c8:t158=true
       ·subst c8;rw [if_pos rfl]at H;have H':=am_ H;clear H
        try go_wp2
        replace HB:=be1_ HB;have p156:0≤(x5_1:Int):=od_;have q156:x5_1 < (l0.length:Int):=od_;obtain⟨ad156,A156_1,c156_1,e156,hx156_0,hx156_1,hl156_1,hi156_1⟩:=at_T80 HR0.out x5_1 p156 q156;have hw156_1:=hx156_1;have hw156_0:=hx156_0;cases e156;replace hx156_0:=hb_ HB hx156_0;replace hx156_1:=hb_ HB hx156_1;have HR156_1:=am_ hi156_1;have HC156_1:=am_ hl156_1;clear hi156_1 hl156_1;replace p156:=eq_true p156;replace q156:=eq_true q156;have p157:0≤(x5_1:Int):=od_;have q157:x5_1 < (l1.length:Int):=od_;obtain⟨ad157,A157_1,c157_1,e157,hx157_0,hx157_1,hl157_1,hi157_1⟩:=at_T80 HR1.out x5_1 p157 q157;have hw157_1:=hx157_1;have hw157_0:=hx157_0;cases e157;replace hx157_0:=hb_ HB hx157_0;replace hx157_1:=hb_ HB hx157_1;have HR157_1:=am_ hi157_1;have HC157_1:=am_ hl157_1;clear hi157_1 hl157_1;replace p157:=eq_true p157;replace q157:=eq_true q157;refine start_ (n:=10) (S:=fun w'=>ce2_ w' (ad156.add ((x5_1).toNat * 2)) (.int .i64 ((rd_T80 l0 x5_1).f0)) (.slice A156_1 ((rd_T80 l0 x5_1).f1).length c156_1) (cg2_ w' (ad157.add ((x5_1).toNat * 2)) (.int .i64 ((rd_T80 l1 x5_1).f0)) (.slice A157_1 ((rd_T80 l1 x5_1).f1).length c157_1))) (ds:=[]) (bs 10 0) (by kernel_rfl) rfl rfl ⟨(hd_ HB hw156_0),(hd_ HB hw156_1),(hd_ HB hw157_0),(hd_ HB hw157_1)⟩ (fun hH=>?_);refine with_tabW laws_eqLaneS.tab6 laws_eqLaneS.bits6 (fun HT_ HW_=>?_);generalize wr.drew=w9 at HB HR156_1 HR157_1 hx156_0 hx156_1 hx157_0 hx157_1 hH ⊢;(iterate 3 (refine psn_ HT_ ?_));refine ps_ 4 21 (bm 10 23) HT_ ?_;refine ps_ 5 22 (bm 10 55) HT_ ?_;refine ps_ 6 23 (bm 10 119) HT_ ?_;refine tk_ 3 20 (bs 10 7) HT_ HW_ hH ?_;refine tkn_ HT_ HW_ hH ?_;refine on_ 8 (some 25) (bs 10 9) HT_ (fun K hK=>?_);refine gz_ Try.func128 (laws_eqLane.calls k1 ((rd_T80 l0 x5_1).f0) _ _ ((rd_T80 l0 x5_1).f1) ((rd_T80 l1 x5_1).f0) _ _ ((rd_T80 l1 x5_1).f1) true _ ?side1 ?side2 ?side3 ?side4 A7.out) ?_;(case side1=>repeat (first|exact(Kd.C_below HR156_1.out HB.out)|(with_reducible refine Kd.C_alloc ?_ _)|(with_reducible refine Kd.C_drewN ?_ _)|(with_reducible refine Kd.C_drew ?_)));(case side2=>exact HC156_1.out);(case side3=>repeat (first|exact(Kd.C_below HR157_1.out HB.out)|(with_reducible refine Kd.C_alloc ?_ _)|(with_reducible refine Kd.C_drewN ?_ _)|(with_reducible refine Kd.C_drew ?_)));(case side4=>exact HC157_1.out);rintro e w10 ⟨rfl,hb⟩;refine⟨_,rfl,?_⟩;replace HB:=am_ (below_step (be_ HB) hb);(try clear hb);refine hK.out _ _ ⟨(hd_ HB hw156_0),(hd_ HB hw156_1),(hd_ HB hw157_0),(hd_ HB hw157_1)⟩ (fun hH=>?_);clear hK K;refine norm_ (a':=?_) ?_ ?_;rotate_left
        ·show Act.put _ (some 25) _=_;simp only [Act.put,ls0_,ls1_,ls2_,i64_w,i32_w];rfl
        refine psn_ HT_ ?_;refine done_ (done_of HT_.out (by kernel_rfl)) ?_
        try go_wp2
        go_roundg k1
        case measure=>have:=HK1.out;omega
        case rel=>exact⟨(wrap64 (x5_1+1)),re_,H',⟨by have:=HK1.out;omega⟩,⟨be_ HB⟩⟩
       ·replace c8:=Bool.eq_false_iff.mpr c8;subst c8;rw [if_neg (show ¬ (false=true) by decide)]at H;obtain rfl:=Option.some.inj H
        try go_wp2
        replace HB:=be1_ HB;have p156:0≤(x5_1:Int):=od_;have q156:x5_1 < (l0.length:Int):=od_;obtain⟨ad156,A156_1,c156_1,e156,hx156_0,hx156_1,hl156_1,hi156_1⟩:=at_T80 HR0.out x5_1 p156 q156;have hw156_1:=hx156_1;have hw156_0:=hx156_0;cases e156;replace hx156_0:=hb_ HB hx156_0;replace hx156_1:=hb_ HB hx156_1;have HR156_1:=am_ hi156_1;have HC156_1:=am_ hl156_1;clear hi156_1 hl156_1;replace p156:=eq_true p156;replace q156:=eq_true q156;have p157:0≤(x5_1:Int):=od_;have q157:x5_1 < (l1.length:Int):=od_;obtain⟨ad157,A157_1,c157_1,e157,hx157_0,hx157_1,hl157_1,hi157_1⟩:=at_T80 HR1.out x5_1 p157 q157;have hw157_1:=hx157_1;have hw157_0:=hx157_0;cases e157;replace hx157_0:=hb_ HB hx157_0;replace hx157_1:=hb_ HB hx157_1;have HR157_1:=am_ hi157_1;have HC157_1:=am_ hl157_1;clear hi157_1 hl157_1;replace p157:=eq_true p157;replace q157:=eq_true q157;refine start_ (n:=10) (S:=fun w'=>ce2_ w' (ad156.add ((x5_1).toNat * 2)) (.int .i64 ((rd_T80 l0 x5_1).f0)) (.slice A156_1 ((rd_T80 l0 x5_1).f1).length c156_1) (cg2_ w' (ad157.add ((x5_1).toNat * 2)) (.int .i64 ((rd_T80 l1 x5_1).f0)) (.slice A157_1 ((rd_T80 l1 x5_1).f1).length c157_1))) (ds:=[]) (bs 10 0) (by kernel_rfl) rfl rfl ⟨(hd_ HB hw156_0),(hd_ HB hw156_1),(hd_ HB hw157_0),(hd_ HB hw157_1)⟩ (fun hH=>?_);refine with_tabW laws_eqLaneS.tab6 laws_eqLaneS.bits6 (fun HT_ HW_=>?_);generalize wr.drew=w11 at HB HR156_1 HR157_1 hx156_0 hx156_1 hx157_0 hx157_1 hH ⊢;(iterate 3 (refine psn_ HT_ ?_));refine ps_ 4 21 (bm 10 23) HT_ ?_;refine ps_ 5 22 (bm 10 55) HT_ ?_;refine ps_ 6 23 (bm 10 119) HT_ ?_;refine tk_ 3 20 (bs 10 7) HT_ HW_ hH ?_;refine tkn_ HT_ HW_ hH ?_;refine on_ 8 (some 25) (bs 10 9) HT_ (fun K hK=>?_);refine gz_ Try.func128 (laws_eqLane.calls k1 ((rd_T80 l0 x5_1).f0) _ _ ((rd_T80 l0 x5_1).f1) ((rd_T80 l1 x5_1).f0) _ _ ((rd_T80 l1 x5_1).f1) false _ ?side1 ?side2 ?side3 ?side4 A7.out) ?_;(case side1=>repeat (first|exact(Kd.C_below HR156_1.out HB.out)|(with_reducible refine Kd.C_alloc ?_ _)|(with_reducible refine Kd.C_drewN ?_ _)|(with_reducible refine Kd.C_drew ?_)));(case side2=>exact HC156_1.out);(case side3=>repeat (first|exact(Kd.C_below HR157_1.out HB.out)|(with_reducible refine Kd.C_alloc ?_ _)|(with_reducible refine Kd.C_drewN ?_ _)|(with_reducible refine Kd.C_drew ?_)));(case side4=>exact HC157_1.out);rintro e w12 ⟨rfl,hb⟩;refine⟨_,rfl,?_⟩;replace HB:=am_ (below_step (be_ HB) hb);(try clear hb);refine hK.out _ _ ⟨(hd_ HB hw156_0),(hd_ HB hw156_1),(hd_ HB hw157_0),(hd_ HB hw157_1)⟩ (fun hH=>?_);clear hK K;refine norm_ (a':=?_) ?_ ?_;rotate_left
        ·show Act.put _ (some 25) _=_;simp only [Act.put,ls0_,ls1_,ls2_,i64_w,i32_w];rfl
        refine psn_ HT_ ?_;refine done_ (done_of HT_.out (by kernel_rfl)) ?_
        try go_wp2
        go_ret;exact⟨er_,be_ HB⟩
      ·rw [if_neg c6]at H;exact absurd H (by simp)
     ·rw [if_neg c5]at H;exact absurd H (by simp)
    ·rw [if_neg c4]at H;have c4b0:decide (x5_1 < (l0.length:Int))=false:=decide_eq_false c4;clear c4;obtain rfl:=Option.some.inj H;go_wp2;go_ret;exact⟨er_,be_ HB⟩
 ·rw [if_neg c3]at H;have c3b0:((l0.length:Int) == (l1.length:Int))=false:=beq_eq_false_iff_ne.mpr c3;have c3b1:((l0.length:Int) != (l1.length:Int))=true:=bne_iff_ne.mpr c3;have c3b2:(l0.length == l1.length)=false:=(by first|simpa using c3|(simp at c3 ⊢;omega));obtain rfl:=Option.some.inj H
  go_enter Try.func90,Try.ntmps90
  go_wp2;go_ret;exact⟨er_,be_ HB⟩

/-! ### laws_eqBuf: function 29 -/
def laws_eqBuf.f (k:Nat) (a0_0:Int) (a0_1:Int) (a0_2:Int) (a0_3:Int) (a0_4:Bool) (l0_5:List (S80)) (a1_0:Int) (a1_1:Int) (a1_2:Int) (a1_3:Int) (a1_4:Bool) (l1_5:List (S80)):Option (Bool):=(laws_eqLimits.f a0_0 a0_1 a0_2 a0_3 a0_4 a1_0 a1_1 a1_2 a1_3 a1_4).bind fun t161=>(if t161=true then((laws_eqLaneS.f k l0_5 l1_5).bind fun t162=>(if t162=true then(some true) else(some false))) else(some false))
theorem laws_eqBuf.mono:∀ a0 a1 a2 a3 a4 a5 a6 a7 a8 a9 a10 a11 k,LeO (laws_eqBuf.f k a0 a1 a2 a3 a4 a5 a6 a7 a8 a9 a10 a11) (laws_eqBuf.f (k+1) a0 a1 a2 a3 a4 a5 a6 a7 a8 a9 a10 a11):=by
 intro a0 a1 a2 a3 a4 a5 a6 a7 a8 a9 a10 a11 k;unfold laws_eqBuf.f
 repeat' (first|(with_reducible exact laws_eqLaneS.mono _ _ _)|(with_reducible exact LeO.refl _)|(with_reducible exact LeO.none _)|(with_reducible refine LeO.ite ?_ ?_)|(with_reducible refine LeO.bind ?_ (fun _=>?_))|exact laws_eqLaneS.mono _ _ _|exact LeO.none _|refine LeO.ite ?_ ?_|refine LeO.bind ?_ (fun _=>?_))
set_option maxHeartbeats 80000000 in
set_option maxRecDepth 100000 in
theorem laws_eqBuf.calls (k:Nat) (a0_0:Int) (a0_1:Int) (a0_2:Int) (a0_3:Int) (a0_4:Bool) (A0_5:Option Addr) (c0_5:Nat) (l0_5:List (S80)) (a1_0:Int) (a1_1:Int) (a1_2:Int) (a1_3:Int) (a1_4:Bool) (A1_5:Option Addr) (c1_5:Nat) (l1_5:List (S80)) (r:Bool) (w:World) (hr0_5:Kd.C k80 w A0_5 l0_5.length l0_5) (hc0_5:l0_5.length≤c0_5) (hr1_5:Kd.C k80 w A1_5 l1_5.length l1_5) (hc1_5:l1_5.length≤c1_5) (h:laws_eqBuf.f k a0_0 a0_1 a0_2 a0_3 a0_4 l0_5 a1_0 a1_1 a1_2 a1_3 a1_4 l1_5=some r) :
  Calls Try.prog 29 #[.agg #[.int .i64 a0_0,.int .i64 a0_1,.int .i64 a0_2,.int .i64 a0_3,.bool a0_4,.slice A0_5 l0_5.length c0_5],.agg #[.int .i64 a1_0,.int .i64 a1_1,.int .i64 a1_2,.int .i64 a1_3,.bool a1_4,.slice A1_5 l1_5.length c1_5]] w fun e w'=>e=.returned (.bool r)∧Below w.heap.size w w':=by
 have hu47:=Try.underlying47;have hu44:=Try.underlying44;have HR0_5:=am_ hr0_5;have HC0_5:=am_ hc0_5;clear hr0_5 hc0_5;have HR1_5:=am_ hr1_5;have HC1_5:=am_ hc1_5;clear hr1_5 hc1_5;have HB:=am_ (Below.refl w.heap.size w);have H:=h;clear h;unfold laws_eqBuf.f at H;replace H:=bm1_ H;obtain⟨t161,A3,H⟩:=H
 by_cases c4:t161=true
 ·subst c4;rw [if_pos rfl]at H;replace H:=bm1_ H;obtain⟨t162,A5,H⟩:=H
  by_cases c6:t162=true
  ·subst c6;rw [if_pos rfl]at H;obtain rfl:=Option.some.inj H
   go_enter Try.func29,Try.ntmps29
   go_wp2_with (first|((with_reducible refine gd_ 2 rfl ?_);refine bv_ 2 #[.int .i64 a0_0,.int .i64 a0_1,.int .i64 a0_2,.int .i64 a0_3,.bool a0_4,.slice A0_5 l0_5.length c0_5] 47 ?_;intro gb159 hg w7 hbox hb;have B159:=am_ (hbox);have GW159:=gw_ HB hg;have GE159:=gw_ HB hg;replace HB:=am_ (below_step (be_ HB) hb);clear hb hbox hg)|((with_reducible refine gd_ 3 rfl ?_);refine bv_ 3 #[.int .i64 a1_0,.int .i64 a1_1,.int .i64 a1_2,.int .i64 a1_3,.bool a1_4,.slice A1_5 l1_5.length c1_5] 47 ?_;intro gb160 hg w8 hbox hb;have B160:=am_ (hbox);have GW160:=gw_ HB hg;have GE160:=gw_ HB hg;replace HB:=sb_ HB hb;have D159_160:=nl_ B159 hg;have D160_159:=ng_ B159 hg;replace B159:=bb_ B159 hb;clear hb hbox hg;obtain⟨hnb9,hnc9⟩:=nn_ D159_160;obtain⟨Z10_0,Z10_1,Z10_2,Z10_3,Z10_4,Z10_5,F10_0,F10_1,F10_2,F10_3,F10_4,F10_5⟩:=bz6_ B159;obtain⟨Z11_0,Z11_1,Z11_2,Z11_3,Z11_4,Z11_5,F11_0,F11_1,F11_2,F11_3,F11_4,F11_5⟩:=bz6_ B160)|((with_reducible refine gc_ 89 rfl ?_);refine gk_ 9 Try.func89 (laws_eqLimits.calls a0_0 a0_1 a0_2 a0_3 a0_4 a1_0 a1_1 a1_2 a1_3 a1_4 true _ A3.out) ?_;rintro e w12 ⟨rfl,hb⟩;refine⟨_,rfl,?_⟩;replace B159:=bb_ B159 hb;replace B160:=bb_ B160 hb;replace HB:=sb_ HB hb;clear hb;obtain⟨Z13_0,Z13_1,Z13_2,Z13_3,Z13_4,Z13_5,F13_0,F13_1,F13_2,F13_3,F13_4,F13_5⟩:=bz6_ B159;obtain⟨Z14_0,Z14_1,Z14_2,Z14_3,Z14_4,Z14_5,F14_0,F14_1,F14_2,F14_3,F14_4,F14_5⟩:=bz6_ B160)|((with_reducible refine gc_ 90 rfl ?_);refine gk_ 15 Try.func90 (laws_eqLaneS.calls k _ _ l0_5 _ _ l1_5 true _ ?side1 ?side2 ?side3 ?side4 A5.out) ?_;(case side1=>repeat (first|exact(Kd.C_below HR0_5.out HB.out)|(with_reducible refine Kd.C_alloc ?_ _)|(with_reducible refine Kd.C_drewN ?_ _)|(with_reducible refine Kd.C_drew ?_)));(case side2=>exact HC0_5.out);(case side3=>repeat (first|exact(Kd.C_below HR1_5.out HB.out)|(with_reducible refine Kd.C_alloc ?_ _)|(with_reducible refine Kd.C_drewN ?_ _)|(with_reducible refine Kd.C_drew ?_)));(case side4=>exact HC1_5.out);rintro e w15 ⟨rfl,hb⟩;refine⟨_,rfl,?_⟩;replace B159:=bb_ B159 hb;replace B160:=bb_ B160 hb;replace HB:=sb_ HB hb;clear hb));go_ret;exact⟨er_,bf_ HB⟩
  ·replace c6:=Bool.eq_false_iff.mpr c6;subst c6;rw [if_neg (show ¬ (false=true) by decide)]at H;obtain rfl:=Option.some.inj H
   go_enter Try.func29,Try.ntmps29
   go_wp2_with (first|((with_reducible refine gd_ 2 rfl ?_);refine bv_ 2 #[.int .i64 a0_0,.int .i64 a0_1,.int .i64 a0_2,.int .i64 a0_3,.bool a0_4,.slice A0_5 l0_5.length c0_5] 47 ?_;intro gb159 hg w16 hbox hb;have B159:=am_ (hbox);have GW159:=gw_ HB hg;have GE159:=gw_ HB hg;replace HB:=am_ (below_step (be_ HB) hb);clear hb hbox hg)|((with_reducible refine gd_ 3 rfl ?_);refine bv_ 3 #[.int .i64 a1_0,.int .i64 a1_1,.int .i64 a1_2,.int .i64 a1_3,.bool a1_4,.slice A1_5 l1_5.length c1_5] 47 ?_;intro gb160 hg w17 hbox hb;have B160:=am_ (hbox);have GW160:=gw_ HB hg;have GE160:=gw_ HB hg;replace HB:=sb_ HB hb;have D159_160:=nl_ B159 hg;have D160_159:=ng_ B159 hg;replace B159:=bb_ B159 hb;clear hb hbox hg;obtain⟨hnb18,hnc18⟩:=nn_ D159_160;obtain⟨Z19_0,Z19_1,Z19_2,Z19_3,Z19_4,Z19_5,F19_0,F19_1,F19_2,F19_3,F19_4,F19_5⟩:=bz6_ B159;obtain⟨Z20_0,Z20_1,Z20_2,Z20_3,Z20_4,Z20_5,F20_0,F20_1,F20_2,F20_3,F20_4,F20_5⟩:=bz6_ B160)|((with_reducible refine gc_ 89 rfl ?_);refine gk_ 9 Try.func89 (laws_eqLimits.calls a0_0 a0_1 a0_2 a0_3 a0_4 a1_0 a1_1 a1_2 a1_3 a1_4 true _ A3.out) ?_;rintro e w21 ⟨rfl,hb⟩;refine⟨_,rfl,?_⟩;replace B159:=bb_ B159 hb;replace B160:=bb_ B160 hb;replace HB:=sb_ HB hb;clear hb;obtain⟨Z22_0,Z22_1,Z22_2,Z22_3,Z22_4,Z22_5,F22_0,F22_1,F22_2,F22_3,F22_4,F22_5⟩:=bz6_ B159;obtain⟨Z23_0,Z23_1,Z23_2,Z23_3,Z23_4,Z23_5,F23_0,F23_1,F23_2,F23_3,F23_4,F23_5⟩:=bz6_ B160)|((with_reducible refine gc_ 90 rfl ?_);refine gk_ 15 Try.func90 (laws_eqLaneS.calls k _ _ l0_5 _ _ l1_5 false _ ?side1 ?side2 ?side3 ?side4 A5.out) ?_;(case side1=>repeat (first|exact(Kd.C_below HR0_5.out HB.out)|(with_reducible refine Kd.C_alloc ?_ _)|(with_reducible refine Kd.C_drewN ?_ _)|(with_reducible refine Kd.C_drew ?_)));(case side2=>exact HC0_5.out);(case side3=>repeat (first|exact(Kd.C_below HR1_5.out HB.out)|(with_reducible refine Kd.C_alloc ?_ _)|(with_reducible refine Kd.C_drewN ?_ _)|(with_reducible refine Kd.C_drew ?_)));(case side4=>exact HC1_5.out);rintro e w24 ⟨rfl,hb⟩;refine⟨_,rfl,?_⟩;replace B159:=bb_ B159 hb;replace B160:=bb_ B160 hb;replace HB:=sb_ HB hb;clear hb));go_ret;exact⟨er_,bf_ HB⟩
 ·replace c4:=Bool.eq_false_iff.mpr c4;subst c4;rw [if_neg (show ¬ (false=true) by decide)]at H;obtain rfl:=Option.some.inj H
  go_enter Try.func29,Try.ntmps29
  go_wp2_with (first|((with_reducible refine gd_ 2 rfl ?_);refine bv_ 2 #[.int .i64 a0_0,.int .i64 a0_1,.int .i64 a0_2,.int .i64 a0_3,.bool a0_4,.slice A0_5 l0_5.length c0_5] 47 ?_;intro gb159 hg w25 hbox hb;have B159:=am_ (hbox);have GW159:=gw_ HB hg;have GE159:=gw_ HB hg;replace HB:=am_ (below_step (be_ HB) hb);clear hb hbox hg)|((with_reducible refine gd_ 3 rfl ?_);refine bv_ 3 #[.int .i64 a1_0,.int .i64 a1_1,.int .i64 a1_2,.int .i64 a1_3,.bool a1_4,.slice A1_5 l1_5.length c1_5] 47 ?_;intro gb160 hg w26 hbox hb;have B160:=am_ (hbox);have GW160:=gw_ HB hg;have GE160:=gw_ HB hg;replace HB:=sb_ HB hb;have D159_160:=nl_ B159 hg;have D160_159:=ng_ B159 hg;replace B159:=bb_ B159 hb;clear hb hbox hg;obtain⟨hnb27,hnc27⟩:=nn_ D159_160;obtain⟨Z28_0,Z28_1,Z28_2,Z28_3,Z28_4,Z28_5,F28_0,F28_1,F28_2,F28_3,F28_4,F28_5⟩:=bz6_ B159;obtain⟨Z29_0,Z29_1,Z29_2,Z29_3,Z29_4,Z29_5,F29_0,F29_1,F29_2,F29_3,F29_4,F29_5⟩:=bz6_ B160)|((with_reducible refine gc_ 89 rfl ?_);refine gk_ 9 Try.func89 (laws_eqLimits.calls a0_0 a0_1 a0_2 a0_3 a0_4 a1_0 a1_1 a1_2 a1_3 a1_4 false _ A3.out) ?_;rintro e w30 ⟨rfl,hb⟩;refine⟨_,rfl,?_⟩;replace B159:=bb_ B159 hb;replace B160:=bb_ B160 hb;replace HB:=sb_ HB hb;clear hb));go_ret;exact⟨er_,bf_ HB⟩

/-! ### laws_eqIntS: function 30 -/
def laws_eqIntS.l0:Nat→List Int→List Int→Int→Option (Bool)
  | 0,_,_,_=>none
  | k+1,x0,x1,x5=>if x5 < (x0.length:Int) then(if 0≤x5 then(if x5 < (x1.length:Int) then(if (rd x0 x5)=(rd x1 x5) then(laws_eqIntS.l0 k x0 x1 (wrap64 (x5+1))) else(some false)) else(none)) else(none)) else(some true)
def laws_eqIntS.f (k:Nat) (l0:List Int) (l1:List Int):Option (Bool):=if (l0.length:Int)=(l1.length:Int) then(laws_eqIntS.l0 k l0 l1 0) else(some false)
theorem laws_eqIntS.mono_l:∀ k,(∀ y0 y1 y2,LeO (laws_eqIntS.l0 k y0 y1 y2) (laws_eqIntS.l0 (k+1) y0 y1 y2))
 | 0=>fun _ _ _ r h=>by simp [laws_eqIntS.l0]at h
 | k+1=>by
  have ih0:=laws_eqIntS.mono_l k
  ·intro y0 y1 y2;unfold laws_eqIntS.l0
   repeat' (first|(with_reducible exact ih0 ..)|(with_reducible exact LeO.refl _)|(with_reducible exact LeO.none _)|(with_reducible refine LeO.ite ?_ ?_)|(with_reducible refine LeO.bind ?_ (fun _=>?_))|exact ih0 ..|exact LeO.none _|refine LeO.ite ?_ ?_|refine LeO.bind ?_ (fun _=>?_))
theorem laws_eqIntS.mono:∀ a0 a1 k,LeO (laws_eqIntS.f k a0 a1) (laws_eqIntS.f (k+1) a0 a1):=by
 intro a0 a1 k;have ih0:=laws_eqIntS.mono_l k;unfold laws_eqIntS.f
 repeat' (first|(with_reducible exact ih0 ..)|(with_reducible exact LeO.refl _)|(with_reducible exact LeO.none _)|(with_reducible refine LeO.ite ?_ ?_)|(with_reducible refine LeO.bind ?_ (fun _=>?_))|exact ih0 ..|exact LeO.none _|refine LeO.ite ?_ ?_|refine LeO.bind ?_ (fun _=>?_))
set_option maxHeartbeats 80000000 in
set_option maxRecDepth 100000 in
theorem laws_eqIntS.calls (k:Nat) (A0:Option Addr) (c0:Nat) (l0:List Int) (A1:Option Addr) (c1:Nat) (l1:List Int) (r:Bool) (w:World) (hr0:Kd.C (Kd.int .i64) w A0 l0.length l0) (hc0:l0.length≤c0) (hr1:Kd.C (Kd.int .i64) w A1 l1.length l1) (hc1:l1.length≤c1) (h:laws_eqIntS.f k l0 l1=some r) :
  Calls Try.prog 30 #[.slice A0 l0.length c0,.slice A1 l1.length c1] w fun e w'=>e=.returned (.bool r)∧Drawn0 w w':=by
 have HR0:=am_ hr0;have HC0:=am_ hc0;clear hr0 hc0;have HR1:=am_ hr1;have HC1:=am_ hc1;clear hr1 hc1;have H:=h;clear h;unfold laws_eqIntS.f at H
 by_cases c3:(l0.length:Int)=(l1.length:Int)
 ·rw [if_pos c3]at H;have c3b0:((l0.length:Int) == (l1.length:Int))=true:=beq_iff_eq.mpr c3;have c3b1:((l0.length:Int) != (l1.length:Int))=false:=bne_eq_false_iff_eq.mpr c3;have c3b2:(l0.length == l1.length)=true:=(by first|simpa using c3|(simp at c3 ⊢;omega));clear c3;have H':=am_ H;clear H
  go_enter Try.func30,Try.ntmps30
  go_wp2
  repeat (go_quiet (fail);try go_wp2)
  go_loopg [5] k (fun kq v5 w'=>∃ (x5_1:Int),v5=.int .i64 x5_1∧Aside0 (laws_eqIntS.l0 kq l0 l1 x5_1=some r)∧Aside0 (kq≤k)∧Drawn0 w w')
  case atStart=>exact⟨(0),re_,H',⟨Nat.le_refl _⟩,by repeat (first|exact Drawn0.refl _|apply Drawn0.step)⟩
  case round =>
   clear H';(try clear c1);(try clear c3);(try clear c3b0);(try clear c3b1);(try clear c3b2);obtain⟨x5_1,rfl,HA,HK1,⟨m1,rfl⟩⟩:=hrel
   cases gk with
   | zero=>exact absurd HA.out (by simp [laws_eqIntS.l0])
   | succ k1 =>
    have H:=HA.out;clear HA;simp only [laws_eqIntS.l0]at H
    by_cases c4:x5_1 < (l0.length:Int)
    ·rw [if_pos c4]at H;have c4b0:decide (x5_1 < (l0.length:Int))=true:=decide_eq_true c4;clear c4
     by_cases c5:0≤x5_1
     ·rw [if_pos c5]at H;have c5b0:decide (0≤x5_1)=true:=decide_eq_true c5;clear c5
      by_cases c6:x5_1 < (l1.length:Int)
      ·rw [if_pos c6]at H;have c6b0:decide (x5_1 < (l1.length:Int))=true:=decide_eq_true c6;clear c6
       by_cases c7:(rd l0 x5_1)=(rd l1 x5_1)
       ·rw [if_pos c7]at H;have c7b0:((rd l0 x5_1) == (rd l1 x5_1))=true:=beq_iff_eq.mpr c7;have c7b1:((rd l0 x5_1) != (rd l1 x5_1))=false:=bne_eq_false_iff_eq.mpr c7;clear c7;have H':=am_ H;clear H;have p163:0≤(x5_1:Int):=od_;have q163:x5_1 < (l0.length:Int):=od_;obtain⟨ad163,e163,hx163_0⟩:=Kd.at_int HR0.out x5_1 p163 q163;cases e163;replace p163:=eq_true p163;replace q163:=eq_true q163;have p164:0≤(x5_1:Int):=od_;have q164:x5_1 < (l1.length:Int):=od_;obtain⟨ad164,e164,hx164_0⟩:=Kd.at_int HR1.out x5_1 p164 q164;cases e164;replace p164:=eq_true p164;replace q164:=eq_true q164;go_wp2
        repeat (go_quiet (fail);try go_wp2)
        go_roundg k1
        case measure=>have:=HK1.out;omega
        case rel=>exact⟨(wrap64 (x5_1+1)),re_,H',⟨by have:=HK1.out;omega⟩,by repeat (first|exact Drawn0.refl _|apply Drawn0.step)⟩
       ·rw [if_neg c7]at H;have c7b0:((rd l0 x5_1) == (rd l1 x5_1))=false:=beq_eq_false_iff_ne.mpr c7;have c7b1:((rd l0 x5_1) != (rd l1 x5_1))=true:=bne_iff_ne.mpr c7;obtain rfl:=Option.some.inj H;have p163:0≤(x5_1:Int):=od_;have q163:x5_1 < (l0.length:Int):=od_;obtain⟨ad163,e163,hx163_0⟩:=Kd.at_int HR0.out x5_1 p163 q163;cases e163;replace p163:=eq_true p163;replace q163:=eq_true q163;have p164:0≤(x5_1:Int):=od_;have q164:x5_1 < (l1.length:Int):=od_;obtain⟨ad164,e164,hx164_0⟩:=Kd.at_int HR1.out x5_1 p164 q164;cases e164;replace p164:=eq_true p164;replace q164:=eq_true q164;go_wp2
        repeat (go_quiet (fail);try go_wp2)
        go_ret;exact⟨by first|rfl|(simp;done)|(simp [*];done),by repeat (first|exact Drawn0.refl _|apply Drawn0.step)⟩
      ·rw [if_neg c6]at H;exact absurd H (by simp)
     ·rw [if_neg c5]at H;exact absurd H (by simp)
    ·rw [if_neg c4]at H;have c4b0:decide (x5_1 < (l0.length:Int))=false:=decide_eq_false c4;clear c4;obtain rfl:=Option.some.inj H;go_wp2
     repeat (go_quiet (fail);try go_wp2)
     go_ret;exact⟨by first|rfl|(simp;done)|(simp [*];done),by repeat (first|exact Drawn0.refl _|apply Drawn0.step)⟩
 ·rw [if_neg c3]at H;have c3b0:((l0.length:Int) == (l1.length:Int))=false:=beq_eq_false_iff_ne.mpr c3;have c3b1:((l0.length:Int) != (l1.length:Int))=true:=bne_iff_ne.mpr c3;have c3b2:(l0.length == l1.length)=false:=(by first|simpa using c3|(simp at c3 ⊢;omega));obtain rfl:=Option.some.inj H
  go_enter Try.func30,Try.ntmps30
  go_wp2
  repeat (go_quiet (fail);try go_wp2)
  go_ret;exact⟨by first|rfl|(simp;done)|(simp [*];done),by repeat (first|exact Drawn0.refl _|apply Drawn0.step)⟩

end Go.Proofs.Ytnklakficjpmoaa.PFnExactBufClear
