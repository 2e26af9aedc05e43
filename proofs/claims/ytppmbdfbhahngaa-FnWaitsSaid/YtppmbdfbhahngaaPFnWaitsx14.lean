-- printed by a program of this session (wip/printx) out of the translation; Lean checks it
import Derived.Test.YtppmbdfbhahngaaVFnWaits
import Derived.Test.YtppmbdfbhahngaaPFnWaitsx0
import Derived.Test.YtppmbdfbhahngaaPFnWaitsx11
import Derived.Test.YtppmbdfbhahngaaPFnWaitsx13
namespace Go.Proofs.Ytppmbdfbhahngaa.PFnWaits
open Go.RowKit Go.Proofs.YtppmbdfbhahngaaW.PrintWords Go.Proofs.YtppmbdfbhahngaaW.PrintLast Go.Proofs.YtppmbdfbhahngaaW.PrintMore
attribute [local go_sem] max2_int min2_int max_two min_two max_three min_three max_four min_four   -- for this text's walks alone
set_option linter.unusedVariables false
set_option linter.unusedSimpArgs false

/-! ### impl_Fair_pick: function 50 -/
def impl_Fair_pick.l0:Nat→Int→List (S46)→Int→Int→Int→Int→Int→Int→List (S46)→Option (Int)
  | 0,_,_,_,_,_,_,_,_,_=>none
  | k+1,x3,x7,x8,x9,x575000,x575001,x575002,x575003,x575004=>if x9 < x8 then(if 0≤x9 then(if x9 < (x7.length:Int) then(if (rd_T46 x7 x9).f2=true then(if x3 < 0 then(impl_Fair_pick.l0 k x9 x7 x8 (wrap64 (x9+1)) x575000 x575001 x575002 x575003 x575004) else((impl_VecTop.f ((rd_T46 x7 x9).f3.f0) ((rd_T46 x7 x9).f3.f1) ((rd_T46 x7 x9).f3.f2)).bind fun t577=>(if 0≤x3 then(if x3 < (x575004.length:Int) then((impl_VecTop.f ((rd_T46 x575004 x3).f3.f0) ((rd_T46 x575004 x3).f3.f1) ((rd_T46 x575004 x3).f3.f2)).bind fun t579=>(if t577 < t579 then(impl_Fair_pick.l0 k x9 x7 x8 (wrap64 (x9+1)) x575000 x575001 x575002 x575003 x575004) else(impl_Fair_pick.l0 k x3 x7 x8 (wrap64 (x9+1)) x575000 x575001 x575002 x575003 x575004))) else(none)) else(none)))) else(impl_Fair_pick.l0 k x3 x7 x8 (wrap64 (x9+1)) x575000 x575001 x575002 x575003 x575004)) else(none)) else(none)) else(some x3)
def impl_Fair_pick.f (k:Nat) (a0_0:Int) (a0_1:Int) (a0_2:Int) (a0_3:Int) (l0_4:List (S46)):Option (Int):=impl_Fair_pick.l0 k (-1) l0_4 (l0_4.length:Int) 0 a0_0 a0_1 a0_2 a0_3 l0_4
theorem impl_Fair_pick.mono_l:∀ k,(∀ y0 y1 y2 y3 y4 y5 y6 y7 y8,LeO (impl_Fair_pick.l0 k y0 y1 y2 y3 y4 y5 y6 y7 y8) (impl_Fair_pick.l0 (k+1) y0 y1 y2 y3 y4 y5 y6 y7 y8))
 | 0=>fun _ _ _ _ _ _ _ _ _ r h=>by simp [impl_Fair_pick.l0]at h
 | k+1=>by
  have ih0:=impl_Fair_pick.mono_l k
  ·intro y0 y1 y2 y3 y4 y5 y6 y7 y8;unfold impl_Fair_pick.l0
   repeat' (first|(with_reducible exact ih0 ..)|(with_reducible exact LeO.refl _)|(with_reducible exact LeO.none _)|(with_reducible refine LeO.ite ?_ ?_)|(with_reducible refine LeO.bind ?_ (fun _=>?_))|exact ih0 ..|exact LeO.none _|refine LeO.ite ?_ ?_|refine LeO.bind ?_ (fun _=>?_))
theorem impl_Fair_pick.mono:∀ a0 a1 a2 a3 a4 k,LeO (impl_Fair_pick.f k a0 a1 a2 a3 a4) (impl_Fair_pick.f (k+1) a0 a1 a2 a3 a4):=by
 intro a0 a1 a2 a3 a4 k;have ih0:=impl_Fair_pick.mono_l k;unfold impl_Fair_pick.f
 repeat' (first|(with_reducible exact ih0 ..)|(with_reducible exact LeO.refl _)|(with_reducible exact LeO.none _)|(with_reducible refine LeO.ite ?_ ?_)|(with_reducible refine LeO.bind ?_ (fun _=>?_))|exact ih0 ..|exact LeO.none _|refine LeO.ite ?_ ?_|refine LeO.bind ?_ (fun _=>?_))
def impl_Fair_pick.T5:Bool × List (List Nat × List Nat):=(true,[([],[]),([0],[0]),([1],[1]),([2],[2]),([3,2],[2,3]),([4,2,2],[2,4]),([5],[5]),([6,5],[5,6]),([7,5,5],[5,7]),([5],[5]),([9,5],[5,9]),([5],[5]),([10,11,5],[5,10,11]),([12,5],[5,12]),([13,5],[5,13]),([14,8,5],[5,14]),([8,15,5],[5,8,15]),([5,16,2],[2,5,16]),([2,17],[2,17])])
def impl_Fair_pick.B5:List Nat:=[0,1,3,7,15,31,63,127,255,63,575,63,3647,7743,15935,32767,65535,131071,262143]
theorem impl_Fair_pick.tab5:rtab .any (opsOf Try.f50 5)=impl_Fair_pick.T5:=by kernel_rfl
theorem impl_Fair_pick.bits5:waitsOk impl_Fair_pick.T5.2 impl_Fair_pick.B5=true:=by kernel_rfl
set_option maxHeartbeats 8000000 in
set_option maxRecDepth 100000 in
theorem impl_Fair_pick.calls (k:Nat) (a0_0:Int) (a0_1:Int) (a0_2:Int) (a0_3:Int) (A0_4:Option Addr) (c0_4:Nat) (l0_4:List (S46)) (r:Int) (w:World) (hr0_4:Kd.C k46 w A0_4 l0_4.length l0_4) (hc0_4:l0_4.length≤c0_4) (h:impl_Fair_pick.f k a0_0 a0_1 a0_2 a0_3 l0_4=some r) :
  Calls Try.prog 50 #[.agg #[.int .i64 a0_0,.int .i64 a0_1,.int .i64 a0_2,.int .i64 a0_3,.slice A0_4 l0_4.length c0_4]] w fun e w'=>e=.returned (.int .i64 r)∧Below w.heap.size w w':=by
 have hu31:=Try.underlying31;have hu46:=Try.underlying46;have hu28:=Try.underlying28;have HR0_4:=am_ hr0_4;have HC0_4:=am_ hc0_4;clear hr0_4 hc0_4;have HB:=am_ (Below.refl w.heap.size w);have H:=h;clear h;unfold impl_Fair_pick.f at H;have H':=am_ H;clear H
 go_enter Try.func50,Try.ntmps50
 go_wp2_with (first|((with_reducible refine gd_ 1 rfl ?_);refine bv_ 1 #[.int .i64 a0_0,.int .i64 a0_1,.int .i64 a0_2,.int .i64 a0_3,.slice A0_4 l0_4.length c0_4] 31 ?_;intro gb574 hg w2 hbox hb;have B574:=am_ (hbox);have GW574:=gw_ HB hg;have GE574:=gw_ HB hg;replace HB:=am_ (below_step (be_ HB) hb);clear hb hbox hg;obtain⟨Z3_0,Z3_1,Z3_2,Z3_3,Z3_4,F3_0,F3_1,F3_2,F3_3,F3_4⟩:=bz5_ B574));(try simp only [Act.put,ls0_,ls1_,ls2_])
 go_loopg [3,9] k (fun kq v3 v9 w'=>∃ (x3_1:Int) (x9_1:Int),v3=.int .i64 x3_1∧v9=.int .i64 x9_1∧Aside0 (impl_Fair_pick.l0 kq x3_1 l0_4 (l0_4.length:Int) x9_1 a0_0 a0_1 a0_2 a0_3 l0_4=some r)∧Aside0 (kq≤k)∧Aside0 (w'.heap[gb574]?=some (.cells #[.int .i64 a0_0,.int .i64 a0_1,.int .i64 a0_2,.int .i64 a0_3,(.slice A0_4 l0_4.length c0_4)] 31 (0,0)))∧Aside0 (Below w.heap.size w w'))
 case atStart=>exact⟨((-1)),(0),re_,re_,H',⟨Nat.le_refl _⟩,⟨bk_ B574⟩,⟨bf_ HB⟩⟩
 case round =>
  clear H';(try clear Z3_0 Z3_1 Z3_2 Z3_3 Z3_4 F3_0 F3_1 F3_2 F3_3 F3_4);obtain⟨x3_1,x9_1,rfl,rfl,HA,HK1,B574,HB⟩:=hrel
  cases gk with
  | zero=>exact absurd HA.out (by simp [impl_Fair_pick.l0])
  | succ k1 =>
   have H:=HA.out;clear HA;simp only [impl_Fair_pick.l0]at H
   by_cases c4:x9_1 < (l0_4.length:Int)
   ·rw [if_pos c4]at H;have c4b0:decide (x9_1 < (l0_4.length:Int))=true:=decide_eq_true c4;clear c4
    by_cases c5:0≤x9_1
    ·rw [if_pos c5]at H;have c5b0:decide (0≤x9_1)=true:=decide_eq_true c5;clear c5
     by_cases c6:x9_1 < (l0_4.length:Int)
     ·rw [if_pos c6]at H;have c6b0:decide (x9_1 < (l0_4.length:Int))=true:=decide_eq_true c6;clear c6;obtain⟨bq7,hbq7⟩:∃ b_:Bool,b_=((rd_T46 l0_4 x9_1).f2):=⟨_,rfl⟩;replace H:(if bq7=true then(if x3_1 < 0 then(impl_Fair_pick.l0 k1 x9_1 l0_4 (l0_4.length:Int) (wrap64 (x9_1+1)) a0_0 a0_1 a0_2 a0_3 l0_4) else((impl_VecTop.f ((rd_T46 l0_4 x9_1).f3.f0) ((rd_T46 l0_4 x9_1).f3.f1) ((rd_T46 l0_4 x9_1).f3.f2)).bind fun t577=>(if 0≤x3_1 then(if x3_1 < (l0_4.length:Int) then((impl_VecTop.f ((rd_T46 l0_4 x3_1).f3.f0) ((rd_T46 l0_4 x3_1).f3.f1) ((rd_T46 l0_4 x3_1).f3.f2)).bind fun t579=>(if t577 < t579 then(impl_Fair_pick.l0 k1 x9_1 l0_4 (l0_4.length:Int) (wrap64 (x9_1+1)) a0_0 a0_1 a0_2 a0_3 l0_4) else(impl_Fair_pick.l0 k1 x3_1 l0_4 (l0_4.length:Int) (wrap64 (x9_1+1)) a0_0 a0_1 a0_2 a0_3 l0_4))) else(none)) else(none)))) else(impl_Fair_pick.l0 k1 x3_1 l0_4 (l0_4.length:Int) (wrap64 (x9_1+1)) a0_0 a0_1 a0_2 a0_3 l0_4))=some r:=(by rw [← hbq7]at H;exact H);have Nbq7:=am_ hbq7;clear hbq7
      by_cases c8:bq7=true
      ·subst c8;rw [if_pos rfl]at H
       by_cases c9:x3_1 < 0
       ·rw [if_pos c9]at H;have c9b0:decide (x3_1 < 0)=true:=decide_eq_true c9;clear c9;have H':=am_ H;clear H;have p575:0≤(x9_1:Int):=od_;have q575:x9_1 < (l0_4.length:Int):=od_;obtain⟨ad575,e575,hw575_0,hw575_1,hw575_2,hw575_3,hw575_4,hw575_5⟩:=at_T46 HR0_4.out x9_1 p575 q575;(try rw [← Nbq7.out]at hw575_2);cases e575;obtain⟨hx575_0,hx575_1,hx575_2,hx575_3,hx575_4,hx575_5⟩:=hb6_ HB hw575_0 hw575_1 hw575_2 hw575_3 hw575_4 hw575_5;replace p575:=eq_true p575;replace q575:=eq_true q575
        try go_wp2_with (first|((with_reducible refine gd_ 5 rfl ?_);refine bv_ 5 #[.int .i64 0,.int .i64 0,.bool false,.int .i64 0,.int .i64 0,.int .i64 0] 46 ?_;intro gb576 hg w10 hbox hb;have B576:=am_ (hbox);have GW576:=gw_ HB hg;have GE576:=gw_ HB hg;replace HB:=sb_ HB hb;have D574_576:=nl_ B574 hg;have D576_574:=ng_ B574 hg;replace B574:=bb_ B574 hb;clear hb hbox hg;obtain⟨hnb11,hnc11⟩:=nn_ D576_574;obtain⟨Z12_0,Z12_1,Z12_2,Z12_3,Z12_4,Z12_5,F12_0,F12_1,F12_2,F12_3,F12_4,F12_5⟩:=bz6_ B576))
        generalize hW_:World.setCell _ _ _=w13;replace B574:=fc6_ hW_ B574 D574_576;replace B576:=pz6_ hW_ B576;replace HB:Aside0 (Below w.heap.size w w13):=⟨by cases hW_;exact bf_ HB⟩;clear hW_;replace B574:=bd_ B574;replace B576:=bd_ B576;replace HB:=be1_ HB;refine start_ (n:=19) (S:=fun w'=>cc6_ w' gb576 (.int .i64 ((rd_T46 l0_4 x9_1).f0)) (.int .i64 ((rd_T46 l0_4 x9_1).f1)) (.bool true) (.int .i64 ((rd_T46 l0_4 x9_1).f3.f0)) (.int .i64 ((rd_T46 l0_4 x9_1).f3.f1)) (.int .i64 ((rd_T46 l0_4 x9_1).f3.f2))) (ds:=[]) (bs 19 0) (by kernel_rfl) rfl rfl (bo6_ B576) (fun hH=>?_);refine with_tabW impl_Fair_pick.tab5 impl_Fair_pick.bits5 (fun HT_ HW_=>?_);generalize w13.drew=w14 at B574 B576 HB hH ⊢;refine psn_ HT_ ?_;refine tkn_ HT_ HW_ hH ?_;(iterate 4 (refine psn_ HT_ ?_));(iterate 11 (refine pun_ HT_ ?_));(iterate 2 (refine psn_ HT_ ?_));refine done_ (done_of HT_.out (by kernel_rfl)) ?_
        try go_wp2
        go_roundg k1
        case measure=>have:=HK1.out;omega
        case rel=>exact⟨(x9_1),(wrap64 (x9_1+1)),re_,re_,H',⟨by have:=HK1.out;omega⟩,⟨bk_ B574⟩,⟨bf_ HB⟩⟩
       ·rw [if_neg c9]at H;have c9b0:decide (x3_1 < 0)=false:=decide_eq_false c9;clear c9;replace H:=bm1_ H;obtain⟨t577,A15,H⟩:=H
        by_cases c16:0≤x3_1
        ·rw [if_pos c16]at H;have c16b0:decide (0≤x3_1)=true:=decide_eq_true c16;clear c16
         by_cases c17:x3_1 < (l0_4.length:Int)
         ·rw [if_pos c17]at H;have c17b0:decide (x3_1 < (l0_4.length:Int))=true:=decide_eq_true c17;clear c17;replace H:=bm1_ H;obtain⟨t579,A18,H⟩:=H
          by_cases c19:t577 < t579
          ·rw [if_pos c19]at H;have c19b0:decide (t577 < t579)=true:=decide_eq_true c19;clear c19;have H':=am_ H;clear H;have p575:0≤(x9_1:Int):=od_;have q575:x9_1 < (l0_4.length:Int):=od_;obtain⟨ad575,e575,hw575_0,hw575_1,hw575_2,hw575_3,hw575_4,hw575_5⟩:=at_T46 HR0_4.out x9_1 p575 q575;(try rw [← Nbq7.out]at hw575_2);cases e575;obtain⟨hx575_0,hx575_1,hx575_2,hx575_3,hx575_4,hx575_5⟩:=hb6_ HB hw575_0 hw575_1 hw575_2 hw575_3 hw575_4 hw575_5;replace p575:=eq_true p575;replace q575:=eq_true q575
           try go_wp2_with (first|((with_reducible refine gd_ 5 rfl ?_);refine bv_ 5 #[.int .i64 0,.int .i64 0,.bool false,.int .i64 0,.int .i64 0,.int .i64 0] 46 ?_;intro gb576 hg w20 hbox hb;have B576:=am_ (hbox);have GW576:=gw_ HB hg;have GE576:=gw_ HB hg;replace HB:=sb_ HB hb;have D574_576:=nl_ B574 hg;have D576_574:=ng_ B574 hg;replace B574:=bb_ B574 hb;clear hb hbox hg;obtain⟨hnb21,hnc21⟩:=nn_ D576_574;obtain⟨Z22_0,Z22_1,Z22_2,Z22_3,Z22_4,Z22_5,F22_0,F22_1,F22_2,F22_3,F22_4,F22_5⟩:=bz6_ B576))
           generalize hW_:World.setCell _ _ _=w23;replace B574:=fc6_ hW_ B574 D574_576;replace B576:=pz6_ hW_ B576;replace HB:Aside0 (Below w.heap.size w w23):=⟨by cases hW_;exact bf_ HB⟩;clear hW_;replace B574:=bd_ B574;replace B576:=bd_ B576;replace HB:=be1_ HB;have p578:0≤(x3_1:Int):=od_;have q578:x3_1 < (l0_4.length:Int):=od_;obtain⟨ad578,e578,hw578_0,hw578_1,hw578_2,hw578_3,hw578_4,hw578_5⟩:=at_T46 HR0_4.out x3_1 p578 q578;(try rw [← Nbq7.out]at hw578_2);obtain rfl:ad575=ad578:=(by injection e578);obtain⟨hx578_0,hx578_1,hx578_2,hx578_3,hx578_4,hx578_5⟩:=hb6_ HB hw578_0 hw578_1 hw578_2 hw578_3 hw578_4 hw578_5;replace p578:=eq_true p578;replace q578:=eq_true q578;refine start_ (n:=19) (S:=fun w'=>cb6_ w' gb576 (.int .i64 ((rd_T46 l0_4 x9_1).f0)) (.int .i64 ((rd_T46 l0_4 x9_1).f1)) (.bool true) (.int .i64 ((rd_T46 l0_4 x9_1).f3.f0)) (.int .i64 ((rd_T46 l0_4 x9_1).f3.f1)) (.int .i64 ((rd_T46 l0_4 x9_1).f3.f2)) (cb5_ w' gb574 (.int .i64 a0_0) (.int .i64 a0_1) (.int .i64 a0_2) (.int .i64 a0_3) (.slice (some ad575) l0_4.length c0_4) (cg6_ w' (ad575.add ((x3_1).toNat * 6)) (.int .i64 ((rd_T46 l0_4 x3_1).f0)) (.int .i64 ((rd_T46 l0_4 x3_1).f1)) (.bool ((rd_T46 l0_4 x3_1).f2)) (.int .i64 ((rd_T46 l0_4 x3_1).f3.f0)) (.int .i64 ((rd_T46 l0_4 x3_1).f3.f1)) (.int .i64 ((rd_T46 l0_4 x3_1).f3.f2))))) (ds:=[]) (bs 19 0) (by kernel_rfl) rfl rfl (bs6_ B576 (bs5_ B574 ⟨(hd_ HB hw578_0),(hd_ HB hw578_1),(hd_ HB hw578_2),(hd_ HB hw578_3),(hd_ HB hw578_4),(hd_ HB hw578_5)⟩)) (fun hH=>?_);refine with_tabW impl_Fair_pick.tab5 impl_Fair_pick.bits5 (fun HT_ HW_=>?_);generalize w23.drew=w24 at B574 B576 HB hx578_0 hx578_1 hx578_2 hx578_3 hx578_4 hx578_5 hH ⊢;refine psn_ HT_ ?_;refine tkn_ HT_ HW_ hH ?_;(iterate 5 (refine psn_ HT_ ?_));refine ps_ 9 23 (bm 19 639) HT_ ?_;refine ps_ 11 25 (bm 19 2687) HT_ ?_;refine tk_ 7 21 (bm 19 2815) HT_ HW_ hH ?_;refine tk_ 10 24 (bm 19 3839) HT_ HW_ hH ?_;refine ps_ 12 26 (bm 19 7935) HT_ ?_;refine ps_ 13 27 (bm 19 16127) HT_ ?_;refine tk_ 14 28 (bm 19 32511) HT_ HW_ hH ?_;refine on_ 8 (some 22) (bs 19 15) HT_ (fun K hK=>?_);refine gz_ Try.func52 (impl_VecTop.calls ((rd_T46 l0_4 x9_1).f3.f0) ((rd_T46 l0_4 x9_1).f3.f1) ((rd_T46 l0_4 x9_1).f3.f2) t577 _ A15.out) ?_;rintro e w25 ⟨rfl,hb⟩;refine⟨_,rfl,?_⟩;replace B574:=bb_ B574 hb;replace B576:=bb_ B576 hb;replace HB:=sb_ HB hb;(try clear hb);refine hK.out _ _ (bs6_ B576 (bs5_ B574 ⟨(hd_ HB hw578_0),(hd_ HB hw578_1),(hd_ HB hw578_2),(hd_ HB hw578_3),(hd_ HB hw578_4),(hd_ HB hw578_5)⟩)) (fun hH=>?_);clear hK K;refine norm_ (a':=?_) ?_ ?_;rotate_left
           ·show Act.put _ (some 22) _=_;simp only [Act.put,ls0_,ls1_,ls2_,i64_w,i32_w];rfl
           refine on_ 15 (some 29) (bs 19 16) HT_ (fun K hK=>?_);refine gz_ Try.func52 (impl_VecTop.calls ((rd_T46 l0_4 x3_1).f3.f0) ((rd_T46 l0_4 x3_1).f3.f1) ((rd_T46 l0_4 x3_1).f3.f2) t579 _ A18.out) ?_;rintro e w26 ⟨rfl,hb⟩;refine⟨_,rfl,?_⟩;replace B574:=bb_ B574 hb;replace B576:=bb_ B576 hb;replace HB:=sb_ HB hb;(try clear hb);refine hK.out _ _ (bs6_ B576 (bs5_ B574 ⟨(hd_ HB hw578_0),(hd_ HB hw578_1),(hd_ HB hw578_2),(hd_ HB hw578_3),(hd_ HB hw578_4),(hd_ HB hw578_5)⟩)) (fun hH=>?_);clear hK K;refine norm_ (a':=?_) ?_ ?_;rotate_left
           ·show Act.put _ (some 29) _=_;simp only [Act.put,ls0_,ls1_,ls2_,i64_w,i32_w];rfl
           (iterate 3 (refine psn_ HT_ ?_));refine done_ (done_of HT_.out (by kernel_rfl)) ?_
           try go_wp2
           go_roundg k1
           case measure=>have:=HK1.out;omega
           case rel=>exact⟨(x9_1),(wrap64 (x9_1+1)),re_,re_,H',⟨by have:=HK1.out;omega⟩,⟨bk_ B574⟩,⟨bf_ HB⟩⟩
          ·rw [if_neg c19]at H;have c19b0:decide (t577 < t579)=false:=decide_eq_false c19;clear c19;have H':=am_ H;clear H;have p575:0≤(x9_1:Int):=od_;have q575:x9_1 < (l0_4.length:Int):=od_;obtain⟨ad575,e575,hw575_0,hw575_1,hw575_2,hw575_3,hw575_4,hw575_5⟩:=at_T46 HR0_4.out x9_1 p575 q575;(try rw [← Nbq7.out]at hw575_2);cases e575;obtain⟨hx575_0,hx575_1,hx575_2,hx575_3,hx575_4,hx575_5⟩:=hb6_ HB hw575_0 hw575_1 hw575_2 hw575_3 hw575_4 hw575_5;replace p575:=eq_true p575;replace q575:=eq_true q575
           try go_wp2_with (first|((with_reducible refine gd_ 5 rfl ?_);refine bv_ 5 #[.int .i64 0,.int .i64 0,.bool false,.int .i64 0,.int .i64 0,.int .i64 0] 46 ?_;intro gb576 hg w27 hbox hb;have B576:=am_ (hbox);have GW576:=gw_ HB hg;have GE576:=gw_ HB hg;replace HB:=sb_ HB hb;have D574_576:=nl_ B574 hg;have D576_574:=ng_ B574 hg;replace B574:=bb_ B574 hb;clear hb hbox hg;obtain⟨hnb28,hnc28⟩:=nn_ D576_574;obtain⟨Z29_0,Z29_1,Z29_2,Z29_3,Z29_4,Z29_5,F29_0,F29_1,F29_2,F29_3,F29_4,F29_5⟩:=bz6_ B576))
           generalize hW_:World.setCell _ _ _=w30;replace B574:=fc6_ hW_ B574 D574_576;replace B576:=pz6_ hW_ B576;replace HB:Aside0 (Below w.heap.size w w30):=⟨by cases hW_;exact bf_ HB⟩;clear hW_;replace B574:=bd_ B574;replace B576:=bd_ B576;replace HB:=be1_ HB;have p578:0≤(x3_1:Int):=od_;have q578:x3_1 < (l0_4.length:Int):=od_;obtain⟨ad578,e578,hw578_0,hw578_1,hw578_2,hw578_3,hw578_4,hw578_5⟩:=at_T46 HR0_4.out x3_1 p578 q578;(try rw [← Nbq7.out]at hw578_2);obtain rfl:ad575=ad578:=(by injection e578);obtain⟨hx578_0,hx578_1,hx578_2,hx578_3,hx578_4,hx578_5⟩:=hb6_ HB hw578_0 hw578_1 hw578_2 hw578_3 hw578_4 hw578_5;replace p578:=eq_true p578;replace q578:=eq_true q578;refine start_ (n:=19) (S:=fun w'=>cb6_ w' gb576 (.int .i64 ((rd_T46 l0_4 x9_1).f0)) (.int .i64 ((rd_T46 l0_4 x9_1).f1)) (.bool true) (.int .i64 ((rd_T46 l0_4 x9_1).f3.f0)) (.int .i64 ((rd_T46 l0_4 x9_1).f3.f1)) (.int .i64 ((rd_T46 l0_4 x9_1).f3.f2)) (cb5_ w' gb574 (.int .i64 a0_0) (.int .i64 a0_1) (.int .i64 a0_2) (.int .i64 a0_3) (.slice (some ad575) l0_4.length c0_4) (cg6_ w' (ad575.add ((x3_1).toNat * 6)) (.int .i64 ((rd_T46 l0_4 x3_1).f0)) (.int .i64 ((rd_T46 l0_4 x3_1).f1)) (.bool ((rd_T46 l0_4 x3_1).f2)) (.int .i64 ((rd_T46 l0_4 x3_1).f3.f0)) (.int .i64 ((rd_T46 l0_4 x3_1).f3.f1)) (.int .i64 ((rd_T46 l0_4 x3_1).f3.f2))))) (ds:=[]) (bs 19 0) (by kernel_rfl) rfl rfl (bs6_ B576 (bs5_ B574 ⟨(hd_ HB hw578_0),(hd_ HB hw578_1),(hd_ HB hw578_2),(hd_ HB hw578_3),(hd_ HB hw578_4),(hd_ HB hw578_5)⟩)) (fun hH=>?_);refine with_tabW impl_Fair_pick.tab5 impl_Fair_pick.bits5 (fun HT_ HW_=>?_);generalize w30.drew=w31 at B574 B576 HB hx578_0 hx578_1 hx578_2 hx578_3 hx578_4 hx578_5 hH ⊢;refine psn_ HT_ ?_;refine tkn_ HT_ HW_ hH ?_;(iterate 5 (refine psn_ HT_ ?_));refine ps_ 9 23 (bm 19 639) HT_ ?_;refine ps_ 11 25 (bm 19 2687) HT_ ?_;refine tk_ 7 21 (bm 19 2815) HT_ HW_ hH ?_;refine tk_ 10 24 (bm 19 3839) HT_ HW_ hH ?_;refine ps_ 12 26 (bm 19 7935) HT_ ?_;refine ps_ 13 27 (bm 19 16127) HT_ ?_;refine tk_ 14 28 (bm 19 32511) HT_ HW_ hH ?_;refine on_ 8 (some 22) (bs 19 15) HT_ (fun K hK=>?_);refine gz_ Try.func52 (impl_VecTop.calls ((rd_T46 l0_4 x9_1).f3.f0) ((rd_T46 l0_4 x9_1).f3.f1) ((rd_T46 l0_4 x9_1).f3.f2) t577 _ A15.out) ?_;rintro e w32 ⟨rfl,hb⟩;refine⟨_,rfl,?_⟩;replace B574:=bb_ B574 hb;replace B576:=bb_ B576 hb;replace HB:=sb_ HB hb;(try clear hb);refine hK.out _ _ (bs6_ B576 (bs5_ B574 ⟨(hd_ HB hw578_0),(hd_ HB hw578_1),(hd_ HB hw578_2),(hd_ HB hw578_3),(hd_ HB hw578_4),(hd_ HB hw578_5)⟩)) (fun hH=>?_);clear hK K;refine norm_ (a':=?_) ?_ ?_;rotate_left
           ·show Act.put _ (some 22) _=_;simp only [Act.put,ls0_,ls1_,ls2_,i64_w,i32_w];rfl
           refine on_ 15 (some 29) (bs 19 16) HT_ (fun K hK=>?_);refine gz_ Try.func52 (impl_VecTop.calls ((rd_T46 l0_4 x3_1).f3.f0) ((rd_T46 l0_4 x3_1).f3.f1) ((rd_T46 l0_4 x3_1).f3.f2) t579 _ A18.out) ?_;rintro e w33 ⟨rfl,hb⟩;refine⟨_,rfl,?_⟩;replace B574:=bb_ B574 hb;replace B576:=bb_ B576 hb;replace HB:=sb_ HB hb;(try clear hb);refine hK.out _ _ (bs6_ B576 (bs5_ B574 ⟨(hd_ HB hw578_0),(hd_ HB hw578_1),(hd_ HB hw578_2),(hd_ HB hw578_3),(hd_ HB hw578_4),(hd_ HB hw578_5)⟩)) (fun hH=>?_);clear hK K;refine norm_ (a':=?_) ?_ ?_;rotate_left
           ·show Act.put _ (some 29) _=_;simp only [Act.put,ls0_,ls1_,ls2_,i64_w,i32_w];rfl
           (iterate 3 (refine psn_ HT_ ?_));refine done_ (done_of HT_.out (by kernel_rfl)) ?_
           try go_wp2
           go_roundg k1
           case measure=>have:=HK1.out;omega
           case rel=>exact⟨(x3_1),(wrap64 (x9_1+1)),re_,re_,H',⟨by have:=HK1.out;omega⟩,⟨bk_ B574⟩,⟨bf_ HB⟩⟩
         ·rw [if_neg c17]at H;exact absurd H (by simp)
        ·rw [if_neg c16]at H;exact absurd H (by simp)
      ·replace c8:=Bool.eq_false_iff.mpr c8;subst c8;rw [if_neg (show ¬ (false=true) by decide)]at H;have H':=am_ H;clear H;have p575:0≤(x9_1:Int):=od_;have q575:x9_1 < (l0_4.length:Int):=od_;obtain⟨ad575,e575,hw575_0,hw575_1,hw575_2,hw575_3,hw575_4,hw575_5⟩:=at_T46 HR0_4.out x9_1 p575 q575;(try rw [← Nbq7.out]at hw575_2);cases e575;obtain⟨hx575_0,hx575_1,hx575_2,hx575_3,hx575_4,hx575_5⟩:=hb6_ HB hw575_0 hw575_1 hw575_2 hw575_3 hw575_4 hw575_5;replace p575:=eq_true p575;replace q575:=eq_true q575
       try go_wp2_with (first|((with_reducible refine gd_ 5 rfl ?_);refine bv_ 5 #[.int .i64 0,.int .i64 0,.bool false,.int .i64 0,.int .i64 0,.int .i64 0] 46 ?_;intro gb576 hg w34 hbox hb;have B576:=am_ (hbox);have GW576:=gw_ HB hg;have GE576:=gw_ HB hg;replace HB:=sb_ HB hb;have D574_576:=nl_ B574 hg;have D576_574:=ng_ B574 hg;replace B574:=bb_ B574 hb;clear hb hbox hg;obtain⟨hnb35,hnc35⟩:=nn_ D576_574;obtain⟨Z36_0,Z36_1,Z36_2,Z36_3,Z36_4,Z36_5,F36_0,F36_1,F36_2,F36_3,F36_4,F36_5⟩:=bz6_ B576))
       generalize hW_:World.setCell _ _ _=w37;replace B574:=fc6_ hW_ B574 D574_576;replace B576:=pz6_ hW_ B576;replace HB:Aside0 (Below w.heap.size w w37):=⟨by cases hW_;exact bf_ HB⟩;clear hW_;replace B574:=bd_ B574;replace B576:=bd_ B576;replace HB:=be1_ HB;refine start_ (n:=19) (S:=fun w'=>cc6_ w' gb576 (.int .i64 ((rd_T46 l0_4 x9_1).f0)) (.int .i64 ((rd_T46 l0_4 x9_1).f1)) (.bool false) (.int .i64 ((rd_T46 l0_4 x9_1).f3.f0)) (.int .i64 ((rd_T46 l0_4 x9_1).f3.f1)) (.int .i64 ((rd_T46 l0_4 x9_1).f3.f2))) (ds:=[]) (bs 19 0) (by kernel_rfl) rfl rfl (bo6_ B576) (fun hH=>?_);refine with_tabW impl_Fair_pick.tab5 impl_Fair_pick.bits5 (fun HT_ HW_=>?_);generalize w37.drew=w38 at B574 B576 HB hH ⊢;refine psn_ HT_ ?_;refine tkn_ HT_ HW_ hH ?_;refine psn_ HT_ ?_;(iterate 15 (refine pun_ HT_ ?_));refine psn_ HT_ ?_;refine done_ (done_of HT_.out (by kernel_rfl)) ?_
       try go_wp2
       go_roundg k1
       case measure=>have:=HK1.out;omega
       case rel=>exact⟨(x3_1),(wrap64 (x9_1+1)),re_,re_,H',⟨by have:=HK1.out;omega⟩,⟨bk_ B574⟩,⟨bf_ HB⟩⟩
     ·rw [if_neg c6]at H;exact absurd H (by simp)
    ·rw [if_neg c5]at H;exact absurd H (by simp)
   ·rw [if_neg c4]at H;have c4b0:decide (x9_1 < (l0_4.length:Int))=false:=decide_eq_false c4;clear c4;obtain rfl:=Option.some.inj H;go_wp2;go_ret;exact⟨er_,bf_ HB⟩

/-! ### impl_FairPick: function 19 -/
def impl_FairPick.f (k:Nat) (a0_0:Int) (a0_1:Int) (a0_2:Int) (a0_3:Int) (l0_4:List (S46)):Option (Int):=(impl_FairOk.f k a0_0 a0_1 a0_2 a0_3 l0_4).bind fun t581=>(if t581=true then((impl_Fair_pick.f k a0_0 a0_1 a0_2 a0_3 l0_4).bind fun t582=>(if t582 < 0 then(some (-1)) else((impl_Fair_pick.f k a0_0 a0_1 a0_2 a0_3 l0_4).bind fun t583=>(if 0≤t583 then(if t583 < (l0_4.length:Int) then(some ((rd_T46 l0_4 t583).f0)) else(none)) else(none))))) else(some (-1)))
theorem impl_FairPick.mono:∀ a0 a1 a2 a3 a4 k,LeO (impl_FairPick.f k a0 a1 a2 a3 a4) (impl_FairPick.f (k+1) a0 a1 a2 a3 a4):=by
 intro a0 a1 a2 a3 a4 k;unfold impl_FairPick.f
 repeat' (first|(with_reducible exact impl_FairOk.mono _ _ _ _ _ _)|(with_reducible exact impl_Fair_pick.mono _ _ _ _ _ _)|(with_reducible exact LeO.refl _)|(with_reducible exact LeO.none _)|(with_reducible refine LeO.ite ?_ ?_)|(with_reducible refine LeO.bind ?_ (fun _=>?_))|exact impl_FairOk.mono _ _ _ _ _ _|exact impl_Fair_pick.mono _ _ _ _ _ _|exact LeO.none _|refine LeO.ite ?_ ?_|refine LeO.bind ?_ (fun _=>?_))
def impl_FairPick.T3:Bool × List (List Nat × List Nat):=(true,[([],[]),([0],[0]),([],[]),([2],[2]),([1,3],[1,3]),([4],[4]),([5],[5]),([6,3,0,1,2,3,4,5,6],[6])])
def impl_FairPick.B3:List Nat:=[0,1,0,4,15,31,63,127]
theorem impl_FairPick.tab3:rtab .any (opsOf Try.f19 3)=impl_FairPick.T3:=by kernel_rfl
theorem impl_FairPick.bits3:waitsOk impl_FairPick.T3.2 impl_FairPick.B3=true:=by kernel_rfl
set_option maxHeartbeats 8000000 in
set_option maxRecDepth 100000 in
theorem impl_FairPick.calls (k:Nat) (a0_0:Int) (a0_1:Int) (a0_2:Int) (a0_3:Int) (A0_4:Option Addr) (c0_4:Nat) (l0_4:List (S46)) (r:Int) (w:World) (hr0_4:Kd.C k46 w A0_4 l0_4.length l0_4) (hc0_4:l0_4.length≤c0_4) (h:impl_FairPick.f k a0_0 a0_1 a0_2 a0_3 l0_4=some r) :
  Calls Try.prog 19 #[.agg #[.int .i64 a0_0,.int .i64 a0_1,.int .i64 a0_2,.int .i64 a0_3,.slice A0_4 l0_4.length c0_4]] w fun e w'=>e=.returned (.int .i64 r)∧Below w.heap.size w w':=by
 have hu31:=Try.underlying31;have HR0_4:=am_ hr0_4;have HC0_4:=am_ hc0_4;clear hr0_4 hc0_4;have HB:=am_ (Below.refl w.heap.size w);have H:=h;clear h;unfold impl_FairPick.f at H;replace H:=bm1_ H;obtain⟨t581,A2,H⟩:=H
 by_cases c3:t581=true
 ·subst c3;rw [if_pos rfl]at H;replace H:=bm1_ H;obtain⟨t582,A4,H⟩:=H
  by_cases c5:t582 < 0
  ·rw [if_pos c5]at H;have c5b0:decide (t582 < 0)=true:=decide_eq_true c5;clear c5;obtain rfl:=Option.some.inj H
   go_enter Try.func19,Try.ntmps19
   go_wp2_with (first|((with_reducible refine gd_ 1 rfl ?_);refine bv_ 1 #[.int .i64 a0_0,.int .i64 a0_1,.int .i64 a0_2,.int .i64 a0_3,.slice A0_4 l0_4.length c0_4] 31 ?_;intro gb580 hg w6 hbox hb;have B580:=am_ (hbox);have GW580:=gw_ HB hg;have GE580:=gw_ HB hg;replace HB:=am_ (below_step (be_ HB) hb);clear hb hbox hg;obtain⟨Z7_0,Z7_1,Z7_2,Z7_3,Z7_4,F7_0,F7_1,F7_2,F7_3,F7_4⟩:=bz5_ B580)|((with_reducible refine gc_ 21 rfl ?_);refine gk_ 4 Try.func21 (impl_FairOk.calls k a0_0 a0_1 a0_2 a0_3 _ _ l0_4 true _ ?side1 ?side2 A2.out) ?_;(case side1=>repeat (first|exact(Kd.C_below HR0_4.out HB.out)|(with_reducible refine Kd.C_alloc ?_ _)|(with_reducible refine Kd.C_drewN ?_ _)|(with_reducible refine Kd.C_drew ?_)));(case side2=>exact HC0_4.out);rintro e w8 ⟨rfl,hb⟩;refine⟨_,rfl,?_⟩;replace B580:=bb_ B580 hb;replace HB:=sb_ HB hb;clear hb;obtain⟨Z9_0,Z9_1,Z9_2,Z9_3,Z9_4,F9_0,F9_1,F9_2,F9_3,F9_4⟩:=bz5_ B580)|(go_at_call 50;(with_reducible refine(impl_Fair_pick.calls k a0_0 a0_1 a0_2 a0_3 _ _ l0_4 t582 _ ?side1 ?side2 A4.out).mono ?_);(case side1=>repeat (first|exact(Kd.C_below HR0_4.out HB.out)|(with_reducible refine Kd.C_alloc ?_ _)|(with_reducible refine Kd.C_drewN ?_ _)|(with_reducible refine Kd.C_drew ?_)));(case side2=>exact HC0_4.out);rintro e w10 ⟨rfl,hb⟩;replace B580:=bb_ B580 hb;replace HB:=sb_ HB hb;clear hb));go_ret;exact⟨er_,bf_ HB⟩
  ·rw [if_neg c5]at H;have c5b0:decide (t582 < 0)=false:=decide_eq_false c5;clear c5;replace H:=bm1_ H;obtain⟨t583,A11,H⟩:=H
   by_cases c12:0≤t583
   ·rw [if_pos c12]at H;have c12b0:decide (0≤t583)=true:=decide_eq_true c12;clear c12
    by_cases c13:t583 < (l0_4.length:Int)
    ·rw [if_pos c13]at H;have c13b0:decide (t583 < (l0_4.length:Int))=true:=decide_eq_true c13;clear c13;obtain rfl:=Option.some.inj H
     go_enter Try.func19,Try.ntmps19
     try go_wp2_with (first|((with_reducible refine gd_ 1 rfl ?_);refine bv_ 1 #[.int .i64 a0_0,.int .i64 a0_1,.int .i64 a0_2,.int .i64 a0_3,.slice A0_4 l0_4.length c0_4] 31 ?_;intro gb580 hg w14 hbox hb;have B580:=am_ (hbox);have GW580:=gw_ HB hg;have GE580:=gw_ HB hg;replace HB:=am_ (below_step (be_ HB) hb);clear hb hbox hg;obtain⟨Z15_0,Z15_1,Z15_2,Z15_3,Z15_4,F15_0,F15_1,F15_2,F15_3,F15_4⟩:=bz5_ B580)|((with_reducible refine gc_ 21 rfl ?_);refine gk_ 4 Try.func21 (impl_FairOk.calls k a0_0 a0_1 a0_2 a0_3 _ _ l0_4 true _ ?side1 ?side2 A2.out) ?_;(case side1=>repeat (first|exact(Kd.C_below HR0_4.out HB.out)|(with_reducible refine Kd.C_alloc ?_ _)|(with_reducible refine Kd.C_drewN ?_ _)|(with_reducible refine Kd.C_drew ?_)));(case side2=>exact HC0_4.out);rintro e w16 ⟨rfl,hb⟩;refine⟨_,rfl,?_⟩;replace B580:=bb_ B580 hb;replace HB:=sb_ HB hb;clear hb;obtain⟨Z17_0,Z17_1,Z17_2,Z17_3,Z17_4,F17_0,F17_1,F17_2,F17_3,F17_4⟩:=bz5_ B580)|(go_at_call 50;(with_reducible refine(impl_Fair_pick.calls k a0_0 a0_1 a0_2 a0_3 _ _ l0_4 t582 _ ?side1 ?side2 A4.out).mono ?_);(case side1=>repeat (first|exact(Kd.C_below HR0_4.out HB.out)|(with_reducible refine Kd.C_alloc ?_ _)|(with_reducible refine Kd.C_drewN ?_ _)|(with_reducible refine Kd.C_drew ?_)));(case side2=>exact HC0_4.out);rintro e w18 ⟨rfl,hb⟩;replace B580:=bb_ B580 hb;replace HB:=sb_ HB hb;clear hb))
     replace B580:=bd_ B580;replace HB:=be1_ HB;have p584:0≤(t583:Int):=od_;have q584:t583 < (l0_4.length:Int):=od_;obtain⟨ad584,e584,hw584_0,hw584_1,hw584_2,hw584_3,hw584_4,hw584_5⟩:=at_T46 HR0_4.out t583 p584 q584;cases e584;obtain⟨hx584_0,hx584_1,hx584_2,hx584_3,hx584_4,hx584_5⟩:=hb6_ HB hw584_0 hw584_1 hw584_2 hw584_3 hw584_4 hw584_5;replace p584:=eq_true p584;replace q584:=eq_true q584;refine start_ (n:=8) (S:=fun w'=>cb5_ w' gb580 (.int .i64 a0_0) (.int .i64 a0_1) (.int .i64 a0_2) (.int .i64 a0_3) (.slice (some ad584) l0_4.length c0_4) (cg6_ w' (ad584.add ((t583).toNat * 6)) (.int .i64 ((rd_T46 l0_4 t583).f0)) (.int .i64 ((rd_T46 l0_4 t583).f1)) (.bool ((rd_T46 l0_4 t583).f2)) (.int .i64 ((rd_T46 l0_4 t583).f3.f0)) (.int .i64 ((rd_T46 l0_4 t583).f3.f1)) (.int .i64 ((rd_T46 l0_4 t583).f3.f2)))) (ds:=[]) (bs 8 0) (by kernel_rfl) rfl rfl (bs5_ B580 ⟨(hd_ HB hw584_0),(hd_ HB hw584_1),(hd_ HB hw584_2),(hd_ HB hw584_3),(hd_ HB hw584_4),(hd_ HB hw584_5)⟩) (fun hH=>?_);refine with_tabW impl_FairPick.tab3 impl_FairPick.bits3 (fun HT_ HW_=>?_);generalize w18.drew=w19 at B580 HB hx584_0 hx584_1 hx584_2 hx584_3 hx584_4 hx584_5 hH ⊢;refine psn_ HT_ ?_;(iterate 2 (refine tkn_ HT_ HW_ hH ?_));refine on_ 3 (some 14) (bs 8 4) HT_ (fun K hK=>?_);refine gz_ Try.func50 (impl_Fair_pick.calls k a0_0 a0_1 a0_2 a0_3 _ _ l0_4 t583 _ ?side1 ?side2 A11.out) ?_;(case side1=>repeat (first|exact(Kd.C_below HR0_4.out HB.out)|(with_reducible refine Kd.C_alloc ?_ _)|(with_reducible refine Kd.C_drewN ?_ _)|(with_reducible refine Kd.C_drew ?_)));(case side2=>exact HC0_4.out);rintro e w20 ⟨rfl,hb⟩;refine⟨_,rfl,?_⟩;replace B580:=bb_ B580 hb;replace HB:=sb_ HB hb;(try clear hb);refine hK.out _ _ (bs5_ B580 ⟨(hd_ HB hw584_0),(hd_ HB hw584_1),(hd_ HB hw584_2),(hd_ HB hw584_3),(hd_ HB hw584_4),(hd_ HB hw584_5)⟩) (fun hH=>?_);clear hK K;refine norm_ (a':=?_) ?_ ?_;rotate_left
     ·show Act.put _ (some 14) _=_;simp only [Act.put,ls0_,ls1_,ls2_,i64_w,i32_w];rfl
     (iterate 2 (refine psn_ HT_ ?_));refine tkn_ HT_ HW_ hH ?_;refine psn_ HT_ ?_;refine done_ (done_of HT_.out (by kernel_rfl)) ?_
     try go_wp2
     go_ret;exact⟨er_,bf_ HB⟩
    ·rw [if_neg c13]at H;exact absurd H (by simp)
   ·rw [if_neg c12]at H;exact absurd H (by simp)
 ·replace c3:=Bool.eq_false_iff.mpr c3;subst c3;rw [if_neg (show ¬ (false=true) by decide)]at H;obtain rfl:=Option.some.inj H
  go_enter Try.func19,Try.ntmps19
  go_wp2_with (first|((with_reducible refine gd_ 1 rfl ?_);refine bv_ 1 #[.int .i64 a0_0,.int .i64 a0_1,.int .i64 a0_2,.int .i64 a0_3,.slice A0_4 l0_4.length c0_4] 31 ?_;intro gb580 hg w21 hbox hb;have B580:=am_ (hbox);have GW580:=gw_ HB hg;have GE580:=gw_ HB hg;replace HB:=am_ (below_step (be_ HB) hb);clear hb hbox hg;obtain⟨Z22_0,Z22_1,Z22_2,Z22_3,Z22_4,F22_0,F22_1,F22_2,F22_3,F22_4⟩:=bz5_ B580)|((with_reducible refine gc_ 21 rfl ?_);refine gk_ 4 Try.func21 (impl_FairOk.calls k a0_0 a0_1 a0_2 a0_3 _ _ l0_4 false _ ?side1 ?side2 A2.out) ?_;(case side1=>repeat (first|exact(Kd.C_below HR0_4.out HB.out)|(with_reducible refine Kd.C_alloc ?_ _)|(with_reducible refine Kd.C_drewN ?_ _)|(with_reducible refine Kd.C_drew ?_)));(case side2=>exact HC0_4.out);rintro e w23 ⟨rfl,hb⟩;refine⟨_,rfl,?_⟩;replace B580:=bb_ B580 hb;replace HB:=sb_ HB hb;clear hb));go_ret;exact⟨er_,bf_ HB⟩

/-! ### laws_pick: function 22 -/
mutual
def laws_pick.j0:Nat→List Int→Int→Int→Bool→Option (Int)
  | 0,_,_,_,_=>none
  | k+1,x0,x1,x2,x15=>if x15=true then(some 0) else(laws_pick.l0 k x0 x1 x2 0 0)
def laws_pick.l0:Nat→List Int→Int→Int→Int→Int→Option (Int)
  | 0,_,_,_,_,_=>none
  | k+1,x0,x1,x2,x7,x8=>if x8 < 3 then(if (x0.length:Int)=0 then(none) else(if 0≤(Int.tmod (wrap64 (x1+x8)) (x0.length:Int)) then(if (Int.tmod (wrap64 (x1+x8)) (x0.length:Int)) < (x0.length:Int) then(laws_pick.l0 k x0 x1 x2 (wrap64 ((wrap64 (31 * x7))+(wrap64 (rd x0 (Int.tmod (wrap64 (x1+x8)) (x0.length:Int)))))) (wrap64 (x8+1))) else(none)) else(none))) else(if x2=0 then(none) else(some (Int.tmod (wrap64 (x7+x1)) x2)))
end
def laws_pick.f (k:Nat) (l0:List Int) (a1:Int) (a2:Int):Option (Int):=if (l0.length:Int)=0 then(laws_pick.j0 k l0 a1 a2 true) else(laws_pick.j0 k l0 a1 a2 (decide (a2 < 2)))
theorem laws_pick.mono_l:∀ k,(∀ y0 y1 y2 y3,LeO (laws_pick.j0 k y0 y1 y2 y3) (laws_pick.j0 (k+1) y0 y1 y2 y3))∧(∀ y0 y1 y2 y3 y4,LeO (laws_pick.l0 k y0 y1 y2 y3 y4) (laws_pick.l0 (k+1) y0 y1 y2 y3 y4))
 | 0=>⟨fun _ _ _ _ r h=>by simp [laws_pick.j0]at h,fun _ _ _ _ _ r h=>by simp [laws_pick.l0]at h⟩
 | k+1=>by
  obtain⟨ih0,ih1⟩:=laws_pick.mono_l k;refine⟨?_,?_⟩<;>intros<;>(first|unfold laws_pick.j0|unfold laws_pick.l0)<;>repeat' (first|(with_reducible exact ih0 ..)|(with_reducible exact ih1 ..)|(with_reducible exact LeO.refl _)|(with_reducible exact LeO.none _)|(with_reducible refine LeO.ite ?_ ?_)|(with_reducible refine LeO.bind ?_ (fun _=>?_))|exact ih0 ..|exact ih1 ..|exact LeO.none _|refine LeO.ite ?_ ?_|refine LeO.bind ?_ (fun _=>?_))
theorem laws_pick.mono:∀ a0 a1 a2 k,LeO (laws_pick.f k a0 a1 a2) (laws_pick.f (k+1) a0 a1 a2):=by
 intro a0 a1 a2 k;obtain⟨ih0,ih1⟩:=laws_pick.mono_l k;unfold laws_pick.f
 repeat' (first|(with_reducible exact ih0 ..)|(with_reducible exact ih1 ..)|(with_reducible exact LeO.refl _)|(with_reducible exact LeO.none _)|(with_reducible refine LeO.ite ?_ ?_)|(with_reducible refine LeO.bind ?_ (fun _=>?_))|exact ih0 ..|exact ih1 ..|exact LeO.none _|refine LeO.ite ?_ ?_|refine LeO.bind ?_ (fun _=>?_))
set_option maxHeartbeats 8000000 in
set_option maxRecDepth 100000 in
theorem laws_pick.calls (k:Nat) (A0:Option Addr) (c0:Nat) (l0:List Int) (a1:Int) (a2:Int) (r:Int) (w:World) (hr0:Kd.C (Kd.int .u8) w A0 l0.length l0) (hc0:l0.length≤c0) (h:laws_pick.f k l0 a1 a2=some r) :
  Calls Try.prog 22 #[.slice A0 l0.length c0,.int .i64 a1,.int .i64 a2] w fun e w'=>e=.returned (.int .i64 r)∧Drawn0 w w':=by
 have HR0:=am_ hr0;have HC0:=am_ hc0;clear hr0 hc0;have H:=h;clear h;unfold laws_pick.f at H;have HC4:=am_ H;clear H
 go_enter Try.func22,Try.ntmps22
 go_upto_region 1 with (fail)
 go_cut [15] (fun v15 wc=>∃ (kq:Nat) (x15_3:Bool),v15=.bool x15_3∧Aside0 (laws_pick.j0 kq l0 a1 a2 x15_3=some r)∧Aside0 (kq≤k)∧Drawn0 w wc)
 case first =>
  have H:=HC4.out;clear HC4
  by_cases c5:(l0.length:Int)=0
  ·rw [if_pos c5]at H;have c5b0:((l0.length:Int) == 0)=true:=beq_iff_eq.mpr c5;have c5b1:((l0.length:Int) != 0)=false:=bne_eq_false_iff_eq.mpr c5;clear c5;(first|rw [c5b0]|(simp only [i64_w,i32_w];rw [c5b0])|skip);have H':=am_ H;clear H;go_wp2;go_meet
   case rel=>exact⟨_,(true),re_,H',⟨by first|omega|exact Nat.le_refl _⟩,by repeat (first|exact Drawn0.refl _|apply Drawn0.step)⟩
  ·rw [if_neg c5]at H;have c5b0:((l0.length:Int) == 0)=false:=beq_eq_false_iff_ne.mpr c5;have c5b1:((l0.length:Int) != 0)=true:=bne_iff_ne.mpr c5;have c5b2:¬ (l0=[]):=fun h_=>c5 (by rw [h_];rfl);(first|rw [c5b0]|(simp only [i64_w,i32_w];rw [c5b0])|skip);have H':=am_ H;clear H;go_wp2;go_meet
   case rel=>exact⟨_,(decide (a2 < 2)),re_,H',⟨by first|omega|exact Nat.le_refl _⟩,by repeat (first|exact Drawn0.refl _|apply Drawn0.step)⟩
 case rest =>
  clear HC4;obtain⟨kq,x15_3,rfl,HA,HJ3,⟨mc3,rfl⟩⟩:=hcut
  cases kq with
  | zero=>exact absurd HA.out (by simp [laws_pick.j0])
  | succ kj3 =>
   have H:=HA.out;clear HA;simp only [laws_pick.j0]at H
   by_cases c6:x15_3=true
   ·subst c6;rw [if_pos rfl]at H;obtain rfl:=Option.some.inj H;go_wp2;go_ret;exact⟨by first|rfl|(simp;done)|(simp [*];done),by repeat (first|exact Drawn0.refl _|apply Drawn0.step)⟩
   ·replace c6:=Bool.eq_false_iff.mpr c6;subst c6;rw [if_neg (show ¬ (false=true) by decide)]at H;have H':=am_ H;clear H;go_wp2
    go_loopg [7,8] kj3 (fun kq v7 v8 w'=>∃ (x7_2:Int) (x8_2:Int),v7=.int .i64 x7_2∧v8=.int .i64 x8_2∧Aside0 (laws_pick.l0 kq l0 a1 a2 x7_2 x8_2=some r)∧Aside0 (kq≤kj3)∧Drawn0 w w')
    case atStart=>exact⟨(0),(0),re_,re_,H',⟨Nat.le_refl _⟩,by repeat (first|exact Drawn0.refl _|apply Drawn0.step)⟩
    case round =>
     clear H';(try clear c6);obtain⟨x7_2,x8_2,rfl,rfl,HA,HK2,⟨m2,rfl⟩⟩:=hrel
     cases gk with
     | zero=>exact absurd HA.out (by simp [laws_pick.l0])
     | succ k2 =>
      have H:=HA.out;clear HA;simp only [laws_pick.l0]at H
      by_cases c7:x8_2 < 3
      ·rw [if_pos c7]at H;have c7b0:decide (x8_2 < 3)=true:=decide_eq_true c7;clear c7
       by_cases c8:(l0.length:Int)=0
       ·rw [if_pos c8]at H;exact absurd H (by simp)
       ·rw [if_neg c8]at H;have c8b0:((l0.length:Int) == 0)=false:=beq_eq_false_iff_ne.mpr c8;have c8b1:((l0.length:Int) != 0)=true:=bne_iff_ne.mpr c8;have c8b2:¬ (l0=[]):=fun h_=>c8 (by rw [h_];rfl);obtain⟨ji9,hji9⟩:∃ j_:Int,(Int.tmod (wrap64 (a1+x8_2)) (l0.length:Int))=j_:=⟨_,rfl⟩;replace H:(if 0≤(ji9) then(if (ji9) < (l0.length:Int) then(laws_pick.l0 k2 l0 a1 a2 (wrap64 ((wrap64 (31 * x7_2))+(wrap64 (rd l0 (ji9))))) (wrap64 (x8_2+1))) else(none)) else(none))=some r:=(by first|(rw [hji9]at H;exact H)|(simp only [hji9]at H ⊢;exact H))
        by_cases c10:0≤(ji9)
        ·rw [if_pos c10]at H;have c10b0:decide (0≤(ji9))=true:=decide_eq_true c10;clear c10
         by_cases c11:(ji9) < (l0.length:Int)
         ·rw [if_pos c11]at H;have c11b0:decide ((ji9) < (l0.length:Int))=true:=decide_eq_true c11;clear c11;have H':=am_ H;clear H;have p585:0≤((ji9):Int):=od_;have q585:(ji9) < (l0.length:Int):=od_;obtain⟨ad585,e585,hx585_0⟩:=Kd.at_int HR0.out (ji9) p585 q585;cases e585;replace p585:=eq_true p585;replace q585:=eq_true q585;go_wp2
          go_roundg k2
          case measure=>have:=HJ3.out;have:=HK2.out;omega
          case rel=>exact⟨(wrap64 ((wrap64 (31 * x7_2))+(wrap64 (rd l0 (ji9))))),(wrap64 (x8_2+1)),(by first|rfl|(simp;done)|(simp only [← hji9]<;>(first|rfl|simp))|(simp [*];done)),re_,H',⟨by have:=HJ3.out;have:=HK2.out;omega⟩,by repeat (first|exact Drawn0.refl _|apply Drawn0.step)⟩
         ·rw [if_neg c11]at H;exact absurd H (by simp)
        ·rw [if_neg c10]at H;exact absurd H (by simp)
      ·rw [if_neg c7]at H;have c7b0:decide (x8_2 < 3)=false:=decide_eq_false c7;clear c7
       by_cases c12:a2=0
       ·rw [if_pos c12]at H;exact absurd H (by simp)
       ·rw [if_neg c12]at H;have c12b0:(a2 == 0)=false:=beq_eq_false_iff_ne.mpr c12;have c12b1:(a2 != 0)=true:=bne_iff_ne.mpr c12;obtain rfl:=Option.some.inj H;go_wp2;go_ret;exact⟨by first|rfl|(simp;done)|(simp [*];done),by repeat (first|exact Drawn0.refl _|apply Drawn0.step)⟩

/-! ### impl_Kid: function 69 -/
def impl_Kid.f (l0:List (S46)):Option ((List (S46))):=(some (([]:List (S46)):List (S46))).bind fun y586=>(if y586.length+l0.length < 2932031007402 then(some (y586 ++ l0)) else(none))
set_option maxHeartbeats 8000000 in
set_option maxRecDepth 100000 in
theorem impl_Kid.calls_some (A0:Addr) (c0:Nat) (l0:List (S46)) (r:List (S46)) (w:World) (hr0:Kd.C k46 w (some A0) l0.length l0) (hc0:l0.length≤c0) (h:impl_Kid.f l0=some r) :
  Calls Try.prog 69 #[.slice (some A0) l0.length c0] w fun e w'=>∃ v0_:Value,e=.returned (v0_)∧Kd.R k46 46 w' w.heap.size (fun _=>True) v0_ r∧Below w.heap.size w w':=by
 have hnil0_:=fun (W:World) (n c:Nat)=>Lib.run_eql_slice_nil (P:=Try.prog) W 29 46 (some A0) n c 0 0 Try.underlying29;have HR0:=am_ hr0;have HC0:=am_ hc0;clear hr0 hc0;have HB:=am_ (Below.refl w.heap.size w);have H:((some (([]:List (S46)):List (S46))).bind fun y586=>(if y586.length+l0.length < 2932031007402 then(some (y586 ++ l0)) else(none)))=some r:=h;clear h;obtain⟨y586,hy586⟩:∃ y_:List (S46),y_=(([]:List (S46))):=⟨_,rfl⟩;replace H:(if y586.length+l0.length < 2932031007402 then(some (y586 ++ l0)) else(none))=some r:=(by first|(rw [hy586];with_reducible exact H)|(have H2_:=(Option.bind_some _ _).symm.trans H;rw [hy586];with_reducible exact H2_)|(have H2_:=(Option.bind_some _ _).symm.trans H;with_reducible exact H2_)|with_reducible exact H|(rw [hy586];exact H)|exact H);have Ny586:=am_ hy586;clear hy586
 by_cases c2:y586.length+l0.length < 2932031007402
 ·rw [if_pos c2]at H;have LMc2:=am_ c2;clear c2;obtain⟨y589,hy589⟩:∃ y_:List (S46),y_=(y586 ++ l0):=⟨_,rfl⟩;replace H:(some y589)=some r:=(by first|(rw [hy589];with_reducible exact H)|(have H2_:=(Option.bind_some _ _).symm.trans H;rw [hy589];with_reducible exact H2_)|(have H2_:=(Option.bind_some _ _).symm.trans H;with_reducible exact H2_)|with_reducible exact H|(rw [hy589];exact H)|exact H);have Ny589:=am_ hy589;clear hy589;obtain rfl:=Option.some.inj H
  go_enter Try.func69,Try.ntmps69
  go_wp2_with (first|((with_reducible refine gd_ 5 rfl ?_);refine Kd.R_lit k46 _ 46 ?hg (N:=5) ?hd (xs:=([]:List (S46))) (inner:=[]) (ok:=fun _=>True) (okp:=fun _=>True) ?hr ?hp (fun _ hk=>by first|exact hk|grind) trivial (Below.refl _ _) (Nat.le_refl _) (by simp) ?_;(case hd=>rfl);(case hg=>rfl);(case hr=>first|(go_simp;done)|(go_simp;rfl));(case hp=>exact(Reps.none _ _));intro v587 w3 ho4 hb hg_ hnew_;clear hg_ hnew_;(first|rw [← Ny586.out]at ho4|(simp only [Int.reduceToNat]at ho4;rw [← Ny586.out]at ho4));have HO588:=am_ (Kd.R_lower ho4 (below_size (be_ HB)));replace HB:=am_ (below_step (be_ HB) hb);clear hb ho4)|((with_reducible refine gate_builtin (b:=.append) (xs:=#[.tmp 5,.tmp 6]) rfl ?_);at_builtin;refine Kd.R_append_rows k46 (w0:=w) w.heap.size rfl (.tmp 5) (.tmp 6) 29 46 (.agg #[(.int .i64 0),(.int .i64 0),(.bool false),(.int .i64 0),(.int .i64 0),(.int .i64 0)]) 48 rfl Try.underlying29 info46 rfl (by decide) (by omega) v587 y586 l0 _ _ _ (fun _=>True) (fun _=>False) rfl rfl ?aO ?aR (fun _ _ h=>h) (fun _ h=>h.elim) ?aF ?aB ?aS ?aL ?_;(case aR=>repeat (first|exact(Kd.C_below HR0.out HB.out)|(with_reducible refine Kd.C_alloc ?_ _)|(with_reducible refine Kd.C_drewN ?_ _)|(with_reducible refine Kd.C_drew ?_)));(case aB=>exact(be_ HB));(case aF=>exact(fun _ _=>trivial));(case aO=>exact(kr_ HO588));(case aS=>exact(below_size (be_ HB)));(case aL=>have:=LMc2.out;omega);intro v590 w5 ho hb hg hat;rw [← Ny589.out]at ho;replace HB:=am_ (hb);have HO591:=am_ (ho);clear HO588 ho hb hg hat));go_ret;exact⟨_,er_,by(with_reducible repeat (first|apply Kd.R_alloc|apply Kd.R_drewN|apply Kd.R_drew));exact HO591.out,be_ HB⟩
 ·rw [if_neg c2]at H;exact absurd H (by simp)
set_option maxHeartbeats 8000000 in
set_option maxRecDepth 100000 in
theorem impl_Kid.calls (A0:Option Addr) (c0:Nat) (l0:List (S46)) (r:List (S46)) (w:World) (hr0:Kd.C k46 w A0 l0.length l0) (hc0:l0.length≤c0) (h:impl_Kid.f l0=some r) :
  Calls Try.prog 69 #[.slice A0 l0.length c0] w fun e w'=>∃ v0_:Value,e=.returned (v0_)∧Kd.R k46 46 w' w.heap.size (fun _=>True) v0_ r∧Below w.heap.size w w':=by
  cases A0 with
  | some a_=>exact impl_Kid.calls_some a_ c0 l0 r w hr0 hc0 h
  | none =>
    obtain rfl:l0=[]:=by
      rcases l0 with _|⟨x_,t_⟩
      · rfl
      · obtain⟨ad_,h0_,_⟩:=hr0.2.2 (by simp);cases h0_
    obtain rfl:r=[]:=by simpa [impl_Kid.f] using h.symm
    have hnil0_:=fun (W:World) (n c:Nat)=>Lib.run_eql_slice_nil (P:=Try.prog) W 29 46 none n c 0 0 Try.underlying29;clear hr0 hc0 h
    go_enter Try.func69,Try.ntmps69
    go_wp2;go_ret;exact⟨_,rfl,Kd.R_nil _ _ _ _ _,Below.refl _ _⟩

end Go.Proofs.Ytppmbdfbhahngaa.PFnWaits
