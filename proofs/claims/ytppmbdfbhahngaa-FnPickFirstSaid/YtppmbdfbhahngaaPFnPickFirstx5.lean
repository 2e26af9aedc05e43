-- printed by a program of this session (wip/printx) out of the translation; Lean checks it
import Derived.Test.YtppmbdfbhahngaaVFnPickFirst
import Derived.Test.YtppmbdfbhahngaaPFnPickFirstx0
import Derived.Test.YtppmbdfbhahngaaPFnPickFirstx2
import Derived.Test.YtppmbdfbhahngaaPFnPickFirstx4
namespace Go.Proofs.Ytppmbdfbhahngaa.PFnPickFirst
open Go.RowKit Go.Proofs.YtppmbdfbhahngaaW.PrintWords Go.Proofs.YtppmbdfbhahngaaW.PrintLast Go.Proofs.YtppmbdfbhahngaaW.PrintMore
attribute [local go_sem] max2_int min2_int max_two min_two max_three min_three max_four min_four   -- for this text's walks alone
set_option linter.unusedVariables false
set_option linter.unusedSimpArgs false

/-! ### impl_Fair_pick: function 50 -/
def impl_Fair_pick.l0:Nat→Int→List (S46)→Int→Int→Int→Int→Int→Int→List (S46)→Option (Int)
  | 0,_,_,_,_,_,_,_,_,_=>none
  | k+1,x3,x7,x8,x9,x133000,x133001,x133002,x133003,x133004=>if x9 < x8 then(if 0≤x9 then(if x9 < (x7.length:Int) then(if (rd_T46 x7 x9).f2=true then(if x3 < 0 then(impl_Fair_pick.l0 k x9 x7 x8 (wrap64 (x9+1)) x133000 x133001 x133002 x133003 x133004) else((impl_VecTop.f ((rd_T46 x7 x9).f3.f0) ((rd_T46 x7 x9).f3.f1) ((rd_T46 x7 x9).f3.f2)).bind fun t135=>(if 0≤x3 then(if x3 < (x133004.length:Int) then((impl_VecTop.f ((rd_T46 x133004 x3).f3.f0) ((rd_T46 x133004 x3).f3.f1) ((rd_T46 x133004 x3).f3.f2)).bind fun t137=>(if t135 < t137 then(impl_Fair_pick.l0 k x9 x7 x8 (wrap64 (x9+1)) x133000 x133001 x133002 x133003 x133004) else(impl_Fair_pick.l0 k x3 x7 x8 (wrap64 (x9+1)) x133000 x133001 x133002 x133003 x133004))) else(none)) else(none)))) else(impl_Fair_pick.l0 k x3 x7 x8 (wrap64 (x9+1)) x133000 x133001 x133002 x133003 x133004)) else(none)) else(none)) else(some x3)
def impl_Fair_pick.f (k:Nat) (a0_0:Int) (a0_1:Int) (a0_2:Int) (a0_3:Int) (l0_4:List (S46)):Option (Int):=impl_Fair_pick.l0 k (-1) l0_4 (l0_4.length:Int) 0 a0_0 a0_1 a0_2 a0_3 l0_4
theorem impl_Fair_pick.mono_l:∀ k,(∀ y0 y1 y2 y3 y4 y5 y6 y7 y8,LeO (impl_Fair_pick.l0 k y0 y1 y2 y3 y4 y5 y6 y7 y8) (impl_Fair_pick.l0 (k+1) y0 y1 y2 y3 y4 y5 y6 y7 y8))
 | 0=>fun _ _ _ _ _ _ _ _ _ r h=>by simp [impl_Fair_pick.l0]at h
 | k+1=>by
  have ih0:=impl_Fair_pick.mono_l k
  ·intro y0 y1 y2 y3 y4 y5 y6 y7 y8;unfold impl_Fair_pick.l0
   repeat' (first|(with_reducible exact ih0 ..)|(with_reducible exact LeO.refl _)|(with_reducible exact LeO.none _)|(with_reducible refine LeO.ite ?_ ?_)|(with_reducible refine LeO.bind ?_ (fun _=>?_))|exact ih0 ..|exact LeO.none _|refine LeO.ite ?_ ?_|refine LeO.bind ?_ (fun _=>?_))
theorem impl_Fair_pick.mono:∀ a0 a1 a2 a3 a4 k,LeO (impl_Fair_pick.f k a0 a1 a2 a3 a4) (impl_Fair_pick.f (k+1) a0 a1 a2 a3 a4):=by
 intro a0 a1 a2 a3 a4 k;have ih0:=impl_Fair_pick.mono_l k;unfold impl_Fair_pick.f
 repeat' (first|(with_reducible exact ih0 ..)|(with_reducible exact LeO.refl _)|(with_reducible exact LeO.none _)|(with_reducible refine LeO.ite ?_ ?_)|(with_reducible refine LeO.bind ?_ (fun _=>?_))|exact ih0 ..|exact LeO.none _|refine LeO.ite ?_ ?_|refine LeO.bind ?_ (fun _=>?_))
def impl_Fair_pick.T5:Bool × List (List Nat × List Nat):=(true,[([],[]),([0],[0]),([1],[1]),([2],[2]),([3,2],[2,3]),([4,2,2],[2,4]),([5],[5]),([6,5],[5,6]),([7,5,5],[5,7]),([5],[5]),([9,5],[5,9]),([5],[5]),([10,11,5],[5,10,11]),([12,5],[5,12]),([13,5],[5,13]),([14,8,5],[5,14]),([8,15,5],[5,8,15]),([5,16,2],[2,5,16]),([2,17],[2,17])])
def impl_Fair_pick.B5:List Nat:=[0,1,3,7,15,31,63,127,255,63,575,63,3647,7743,15935,32767,65535,131071,262143]
theorem impl_Fair_pick.tab5:rtab .any (opsOf Try.f50 5)=impl_Fair_pick.T5:=by kernel_rfl
theorem impl_Fair_pick.bits5:waitsOk impl_Fair_pick.T5.2 impl_Fair_pick.B5=true:=by kernel_rfl
set_option maxHeartbeats 8000000 in
set_option maxRecDepth 100000 in
theorem impl_Fair_pick.calls (k:Nat) (a0_0:Int) (a0_1:Int) (a0_2:Int) (a0_3:Int) (A0_4:Option Addr) (c0_4:Nat) (l0_4:List (S46)) (r:Int) (w:World) (hr0_4:Kd.C k46 w A0_4 l0_4.length l0_4) (hc0_4:l0_4.length≤c0_4) (h:impl_Fair_pick.f k a0_0 a0_1 a0_2 a0_3 l0_4=some r) :
  Calls Try.prog 50 #[.agg #[.int .i64 a0_0,.int .i64 a0_1,.int .i64 a0_2,.int .i64 a0_3,.slice A0_4 l0_4.length c0_4]] w fun e w'=>e=.returned (.int .i64 r)∧Below w.heap.size w w':=by
 have hu31:=Try.underlying31;have hu46:=Try.underlying46;have hu28:=Try.underlying28;have HR0_4:=am_ hr0_4;have HC0_4:=am_ hc0_4;clear hr0_4 hc0_4;have HB:=am_ (Below.refl w.heap.size w);have H:=h;clear h;unfold impl_Fair_pick.f at H;have H':=am_ H;clear H
 go_enter Try.func50,Try.ntmps50
 go_wp2_with (first|((with_reducible refine gd_ 1 rfl ?_);refine bv_ 1 #[.int .i64 a0_0,.int .i64 a0_1,.int .i64 a0_2,.int .i64 a0_3,.slice A0_4 l0_4.length c0_4] 31 ?_;intro gb132 hg w2 hbox hb;have B132:=am_ (hbox);have GW132:=gw_ HB hg;have GE132:=gw_ HB hg;replace HB:=am_ (below_step (be_ HB) hb);clear hb hbox hg;obtain⟨Z3_0,Z3_1,Z3_2,Z3_3,Z3_4,F3_0,F3_1,F3_2,F3_3,F3_4⟩:=bz5_ B132));(try simp only [Act.put,ls0_,ls1_,ls2_])
 go_loopg [3,9] k (fun kq v3 v9 w'=>∃ (x3_1:Int) (x9_1:Int),v3=.int .i64 x3_1∧v9=.int .i64 x9_1∧Aside0 (impl_Fair_pick.l0 kq x3_1 l0_4 (l0_4.length:Int) x9_1 a0_0 a0_1 a0_2 a0_3 l0_4=some r)∧Aside0 (kq≤k)∧Aside0 (w'.heap[gb132]?=some (.cells #[.int .i64 a0_0,.int .i64 a0_1,.int .i64 a0_2,.int .i64 a0_3,(.slice A0_4 l0_4.length c0_4)] 31 (0,0)))∧Aside0 (Below w.heap.size w w'))
 case atStart=>exact⟨((-1)),(0),re_,re_,H',⟨Nat.le_refl _⟩,⟨bk_ B132⟩,⟨bf_ HB⟩⟩
 case round =>
  clear H';(try clear Z3_0 Z3_1 Z3_2 Z3_3 Z3_4 F3_0 F3_1 F3_2 F3_3 F3_4);obtain⟨x3_1,x9_1,rfl,rfl,HA,HK1,B132,HB⟩:=hrel
  cases gk with
  | zero=>exact absurd HA.out (by simp [impl_Fair_pick.l0])
  | succ k1 =>
   have H:=HA.out;clear HA;simp only [impl_Fair_pick.l0]at H
   by_cases c4:x9_1 < (l0_4.length:Int)
   ·rw [if_pos c4]at H;have c4b0:decide (x9_1 < (l0_4.length:Int))=true:=decide_eq_true c4;clear c4
    by_cases c5:0≤x9_1
    ·rw [if_pos c5]at H;have c5b0:decide (0≤x9_1)=true:=decide_eq_true c5;clear c5
     by_cases c6:x9_1 < (l0_4.length:Int)
     ·rw [if_pos c6]at H;have c6b0:decide (x9_1 < (l0_4.length:Int))=true:=decide_eq_true c6;clear c6;obtain⟨bq7,hbq7⟩:∃ b_:Bool,b_=((rd_T46 l0_4 x9_1).f2):=⟨_,rfl⟩;replace H:(if bq7=true then(if x3_1 < 0 then(impl_Fair_pick.l0 k1 x9_1 l0_4 (l0_4.length:Int) (wrap64 (x9_1+1)) a0_0 a0_1 a0_2 a0_3 l0_4) else((impl_VecTop.f ((rd_T46 l0_4 x9_1).f3.f0) ((rd_T46 l0_4 x9_1).f3.f1) ((rd_T46 l0_4 x9_1).f3.f2)).bind fun t135=>(if 0≤x3_1 then(if x3_1 < (l0_4.length:Int) then((impl_VecTop.f ((rd_T46 l0_4 x3_1).f3.f0) ((rd_T46 l0_4 x3_1).f3.f1) ((rd_T46 l0_4 x3_1).f3.f2)).bind fun t137=>(if t135 < t137 then(impl_Fair_pick.l0 k1 x9_1 l0_4 (l0_4.length:Int) (wrap64 (x9_1+1)) a0_0 a0_1 a0_2 a0_3 l0_4) else(impl_Fair_pick.l0 k1 x3_1 l0_4 (l0_4.length:Int) (wrap64 (x9_1+1)) a0_0 a0_1 a0_2 a0_3 l0_4))) else(none)) else(none)))) else(impl_Fair_pick.l0 k1 x3_1 l0_4 (l0_4.length:Int) (wrap64 (x9_1+1)) a0_0 a0_1 a0_2 a0_3 l0_4))=some r:=(by rw [← hbq7]at H;exact H);have Nbq7:=am_ hbq7;clear hbq7
      by_cases c8:bq7=true
      ·subst c8;rw [if_pos rfl]at H
       by_cases c9:x3_1 < 0
       ·rw [if_pos c9]at H;have c9b0:decide (x3_1 < 0)=true:=decide_eq_true c9;clear c9;have H':=am_ H;clear H;have p133:0≤(x9_1:Int):=od_;have q133:x9_1 < (l0_4.length:Int):=od_;obtain⟨ad133,e133,hw133_0,hw133_1,hw133_2,hw133_3,hw133_4,hw133_5⟩:=at_T46 HR0_4.out x9_1 p133 q133;(try rw [← Nbq7.out]at hw133_2);cases e133;obtain⟨hx133_0,hx133_1,hx133_2,hx133_3,hx133_4,hx133_5⟩:=hb6_ HB hw133_0 hw133_1 hw133_2 hw133_3 hw133_4 hw133_5;replace p133:=eq_true p133;replace q133:=eq_true q133
        try go_wp2_with (first|((with_reducible refine gd_ 5 rfl ?_);refine bv_ 5 #[.int .i64 0,.int .i64 0,.bool false,.int .i64 0,.int .i64 0,.int .i64 0] 46 ?_;intro gb134 hg w10 hbox hb;have B134:=am_ (hbox);have GW134:=gw_ HB hg;have GE134:=gw_ HB hg;replace HB:=sb_ HB hb;have D132_134:=nl_ B132 hg;have D134_132:=ng_ B132 hg;replace B132:=bb_ B132 hb;clear hb hbox hg;obtain⟨hnb11,hnc11⟩:=nn_ D134_132;obtain⟨Z12_0,Z12_1,Z12_2,Z12_3,Z12_4,Z12_5,F12_0,F12_1,F12_2,F12_3,F12_4,F12_5⟩:=bz6_ B134))
        generalize hW_:World.setCell _ _ _=w13;replace B132:=fc6_ hW_ B132 D132_134;replace B134:=pz6_ hW_ B134;replace HB:Aside0 (Below w.heap.size w w13):=⟨by cases hW_;exact bf_ HB⟩;clear hW_;replace B132:=bd_ B132;replace B134:=bd_ B134;replace HB:=be1_ HB;refine start_ (n:=19) (S:=fun w'=>cc6_ w' gb134 (.int .i64 ((rd_T46 l0_4 x9_1).f0)) (.int .i64 ((rd_T46 l0_4 x9_1).f1)) (.bool true) (.int .i64 ((rd_T46 l0_4 x9_1).f3.f0)) (.int .i64 ((rd_T46 l0_4 x9_1).f3.f1)) (.int .i64 ((rd_T46 l0_4 x9_1).f3.f2))) (ds:=[]) (bs 19 0) (by kernel_rfl) rfl rfl (bo6_ B134) (fun hH=>?_);refine with_tabW impl_Fair_pick.tab5 impl_Fair_pick.bits5 (fun HT_ HW_=>?_);generalize w13.drew=w14 at B132 B134 HB hH ⊢;refine psn_ HT_ ?_;refine tkn_ HT_ HW_ hH ?_;(iterate 4 (refine psn_ HT_ ?_));(iterate 11 (refine pun_ HT_ ?_));(iterate 2 (refine psn_ HT_ ?_));refine done_ (done_of HT_.out (by kernel_rfl)) ?_
        try go_wp2
        go_roundg k1
        case measure=>have:=HK1.out;omega
        case rel=>exact⟨(x9_1),(wrap64 (x9_1+1)),re_,re_,H',⟨by have:=HK1.out;omega⟩,⟨bk_ B132⟩,⟨bf_ HB⟩⟩
       ·rw [if_neg c9]at H;have c9b0:decide (x3_1 < 0)=false:=decide_eq_false c9;clear c9;replace H:=bm1_ H;obtain⟨t135,A15,H⟩:=H
        by_cases c16:0≤x3_1
        ·rw [if_pos c16]at H;have c16b0:decide (0≤x3_1)=true:=decide_eq_true c16;clear c16
         by_cases c17:x3_1 < (l0_4.length:Int)
         ·rw [if_pos c17]at H;have c17b0:decide (x3_1 < (l0_4.length:Int))=true:=decide_eq_true c17;clear c17;replace H:=bm1_ H;obtain⟨t137,A18,H⟩:=H
          by_cases c19:t135 < t137
          ·rw [if_pos c19]at H;have c19b0:decide (t135 < t137)=true:=decide_eq_true c19;clear c19;have H':=am_ H;clear H;have p133:0≤(x9_1:Int):=od_;have q133:x9_1 < (l0_4.length:Int):=od_;obtain⟨ad133,e133,hw133_0,hw133_1,hw133_2,hw133_3,hw133_4,hw133_5⟩:=at_T46 HR0_4.out x9_1 p133 q133;(try rw [← Nbq7.out]at hw133_2);cases e133;obtain⟨hx133_0,hx133_1,hx133_2,hx133_3,hx133_4,hx133_5⟩:=hb6_ HB hw133_0 hw133_1 hw133_2 hw133_3 hw133_4 hw133_5;replace p133:=eq_true p133;replace q133:=eq_true q133
           try go_wp2_with (first|((with_reducible refine gd_ 5 rfl ?_);refine bv_ 5 #[.int .i64 0,.int .i64 0,.bool false,.int .i64 0,.int .i64 0,.int .i64 0] 46 ?_;intro gb134 hg w20 hbox hb;have B134:=am_ (hbox);have GW134:=gw_ HB hg;have GE134:=gw_ HB hg;replace HB:=sb_ HB hb;have D132_134:=nl_ B132 hg;have D134_132:=ng_ B132 hg;replace B132:=bb_ B132 hb;clear hb hbox hg;obtain⟨hnb21,hnc21⟩:=nn_ D134_132;obtain⟨Z22_0,Z22_1,Z22_2,Z22_3,Z22_4,Z22_5,F22_0,F22_1,F22_2,F22_3,F22_4,F22_5⟩:=bz6_ B134))
           generalize hW_:World.setCell _ _ _=w23;replace B132:=fc6_ hW_ B132 D132_134;replace B134:=pz6_ hW_ B134;replace HB:Aside0 (Below w.heap.size w w23):=⟨by cases hW_;exact bf_ HB⟩;clear hW_;replace B132:=bd_ B132;replace B134:=bd_ B134;replace HB:=be1_ HB;have p136:0≤(x3_1:Int):=od_;have q136:x3_1 < (l0_4.length:Int):=od_;obtain⟨ad136,e136,hw136_0,hw136_1,hw136_2,hw136_3,hw136_4,hw136_5⟩:=at_T46 HR0_4.out x3_1 p136 q136;(try rw [← Nbq7.out]at hw136_2);obtain rfl:ad133=ad136:=(by injection e136);obtain⟨hx136_0,hx136_1,hx136_2,hx136_3,hx136_4,hx136_5⟩:=hb6_ HB hw136_0 hw136_1 hw136_2 hw136_3 hw136_4 hw136_5;replace p136:=eq_true p136;replace q136:=eq_true q136;refine start_ (n:=19) (S:=fun w'=>cb6_ w' gb134 (.int .i64 ((rd_T46 l0_4 x9_1).f0)) (.int .i64 ((rd_T46 l0_4 x9_1).f1)) (.bool true) (.int .i64 ((rd_T46 l0_4 x9_1).f3.f0)) (.int .i64 ((rd_T46 l0_4 x9_1).f3.f1)) (.int .i64 ((rd_T46 l0_4 x9_1).f3.f2)) (cb5_ w' gb132 (.int .i64 a0_0) (.int .i64 a0_1) (.int .i64 a0_2) (.int .i64 a0_3) (.slice (some ad133) l0_4.length c0_4) (cg6_ w' (ad133.add ((x3_1).toNat * 6)) (.int .i64 ((rd_T46 l0_4 x3_1).f0)) (.int .i64 ((rd_T46 l0_4 x3_1).f1)) (.bool ((rd_T46 l0_4 x3_1).f2)) (.int .i64 ((rd_T46 l0_4 x3_1).f3.f0)) (.int .i64 ((rd_T46 l0_4 x3_1).f3.f1)) (.int .i64 ((rd_T46 l0_4 x3_1).f3.f2))))) (ds:=[]) (bs 19 0) (by kernel_rfl) rfl rfl (bs6_ B134 (bs5_ B132 ⟨(hd_ HB hw136_0),(hd_ HB hw136_1),(hd_ HB hw136_2),(hd_ HB hw136_3),(hd_ HB hw136_4),(hd_ HB hw136_5)⟩)) (fun hH=>?_);refine with_tabW impl_Fair_pick.tab5 impl_Fair_pick.bits5 (fun HT_ HW_=>?_);generalize w23.drew=w24 at B132 B134 HB hx136_0 hx136_1 hx136_2 hx136_3 hx136_4 hx136_5 hH ⊢;refine psn_ HT_ ?_;refine tkn_ HT_ HW_ hH ?_;(iterate 5 (refine psn_ HT_ ?_));refine ps_ 9 23 (bm 19 639) HT_ ?_;refine ps_ 11 25 (bm 19 2687) HT_ ?_;refine tk_ 7 21 (bm 19 2815) HT_ HW_ hH ?_;refine tk_ 10 24 (bm 19 3839) HT_ HW_ hH ?_;refine ps_ 12 26 (bm 19 7935) HT_ ?_;refine ps_ 13 27 (bm 19 16127) HT_ ?_;refine tk_ 14 28 (bm 19 32511) HT_ HW_ hH ?_;refine on_ 8 (some 22) (bs 19 15) HT_ (fun K hK=>?_);refine gz_ Try.func52 (impl_VecTop.calls ((rd_T46 l0_4 x9_1).f3.f0) ((rd_T46 l0_4 x9_1).f3.f1) ((rd_T46 l0_4 x9_1).f3.f2) t135 _ A15.out) ?_;rintro e w25 ⟨rfl,hb⟩;refine⟨_,rfl,?_⟩;replace B132:=bb_ B132 hb;replace B134:=bb_ B134 hb;replace HB:=sb_ HB hb;(try clear hb);refine hK.out _ _ (bs6_ B134 (bs5_ B132 ⟨(hd_ HB hw136_0),(hd_ HB hw136_1),(hd_ HB hw136_2),(hd_ HB hw136_3),(hd_ HB hw136_4),(hd_ HB hw136_5)⟩)) (fun hH=>?_);clear hK K;refine norm_ (a':=?_) ?_ ?_;rotate_left
           ·show Act.put _ (some 22) _=_;simp only [Act.put,ls0_,ls1_,ls2_,i64_w,i32_w];rfl
           refine on_ 15 (some 29) (bs 19 16) HT_ (fun K hK=>?_);refine gz_ Try.func52 (impl_VecTop.calls ((rd_T46 l0_4 x3_1).f3.f0) ((rd_T46 l0_4 x3_1).f3.f1) ((rd_T46 l0_4 x3_1).f3.f2) t137 _ A18.out) ?_;rintro e w26 ⟨rfl,hb⟩;refine⟨_,rfl,?_⟩;replace B132:=bb_ B132 hb;replace B134:=bb_ B134 hb;replace HB:=sb_ HB hb;(try clear hb);refine hK.out _ _ (bs6_ B134 (bs5_ B132 ⟨(hd_ HB hw136_0),(hd_ HB hw136_1),(hd_ HB hw136_2),(hd_ HB hw136_3),(hd_ HB hw136_4),(hd_ HB hw136_5)⟩)) (fun hH=>?_);clear hK K;refine norm_ (a':=?_) ?_ ?_;rotate_left
           ·show Act.put _ (some 29) _=_;simp only [Act.put,ls0_,ls1_,ls2_,i64_w,i32_w];rfl
           (iterate 3 (refine psn_ HT_ ?_));refine done_ (done_of HT_.out (by kernel_rfl)) ?_
           try go_wp2
           go_roundg k1
           case measure=>have:=HK1.out;omega
           case rel=>exact⟨(x9_1),(wrap64 (x9_1+1)),re_,re_,H',⟨by have:=HK1.out;omega⟩,⟨bk_ B132⟩,⟨bf_ HB⟩⟩
          ·rw [if_neg c19]at H;have c19b0:decide (t135 < t137)=false:=decide_eq_false c19;clear c19;have H':=am_ H;clear H;have p133:0≤(x9_1:Int):=od_;have q133:x9_1 < (l0_4.length:Int):=od_;obtain⟨ad133,e133,hw133_0,hw133_1,hw133_2,hw133_3,hw133_4,hw133_5⟩:=at_T46 HR0_4.out x9_1 p133 q133;(try rw [← Nbq7.out]at hw133_2);cases e133;obtain⟨hx133_0,hx133_1,hx133_2,hx133_3,hx133_4,hx133_5⟩:=hb6_ HB hw133_0 hw133_1 hw133_2 hw133_3 hw133_4 hw133_5;replace p133:=eq_true p133;replace q133:=eq_true q133
           try go_wp2_with (first|((with_reducible refine gd_ 5 rfl ?_);refine bv_ 5 #[.int .i64 0,.int .i64 0,.bool false,.int .i64 0,.int .i64 0,.int .i64 0] 46 ?_;intro gb134 hg w27 hbox hb;have B134:=am_ (hbox);have GW134:=gw_ HB hg;have GE134:=gw_ HB hg;replace HB:=sb_ HB hb;have D132_134:=nl_ B132 hg;have D134_132:=ng_ B132 hg;replace B132:=bb_ B132 hb;clear hb hbox hg;obtain⟨hnb28,hnc28⟩:=nn_ D134_132;obtain⟨Z29_0,Z29_1,Z29_2,Z29_3,Z29_4,Z29_5,F29_0,F29_1,F29_2,F29_3,F29_4,F29_5⟩:=bz6_ B134))
           generalize hW_:World.setCell _ _ _=w30;replace B132:=fc6_ hW_ B132 D132_134;replace B134:=pz6_ hW_ B134;replace HB:Aside0 (Below w.heap.size w w30):=⟨by cases hW_;exact bf_ HB⟩;clear hW_;replace B132:=bd_ B132;replace B134:=bd_ B134;replace HB:=be1_ HB;have p136:0≤(x3_1:Int):=od_;have q136:x3_1 < (l0_4.length:Int):=od_;obtain⟨ad136,e136,hw136_0,hw136_1,hw136_2,hw136_3,hw136_4,hw136_5⟩:=at_T46 HR0_4.out x3_1 p136 q136;(try rw [← Nbq7.out]at hw136_2);obtain rfl:ad133=ad136:=(by injection e136);obtain⟨hx136_0,hx136_1,hx136_2,hx136_3,hx136_4,hx136_5⟩:=hb6_ HB hw136_0 hw136_1 hw136_2 hw136_3 hw136_4 hw136_5;replace p136:=eq_true p136;replace q136:=eq_true q136;refine start_ (n:=19) (S:=fun w'=>cb6_ w' gb134 (.int .i64 ((rd_T46 l0_4 x9_1).f0)) (.int .i64 ((rd_T46 l0_4 x9_1).f1)) (.bool true) (.int .i64 ((rd_T46 l0_4 x9_1).f3.f0)) (.int .i64 ((rd_T46 l0_4 x9_1).f3.f1)) (.int .i64 ((rd_T46 l0_4 x9_1).f3.f2)) (cb5_ w' gb132 (.int .i64 a0_0) (.int .i64 a0_1) (.int .i64 a0_2) (.int .i64 a0_3) (.slice (some ad133) l0_4.length c0_4) (cg6_ w' (ad133.add ((x3_1).toNat * 6)) (.int .i64 ((rd_T46 l0_4 x3_1).f0)) (.int .i64 ((rd_T46 l0_4 x3_1).f1)) (.bool ((rd_T46 l0_4 x3_1).f2)) (.int .i64 ((rd_T46 l0_4 x3_1).f3.f0)) (.int .i64 ((rd_T46 l0_4 x3_1).f3.f1)) (.int .i64 ((rd_T46 l0_4 x3_1).f3.f2))))) (ds:=[]) (bs 19 0) (by kernel_rfl) rfl rfl (bs6_ B134 (bs5_ B132 ⟨(hd_ HB hw136_0),(hd_ HB hw136_1),(hd_ HB hw136_2),(hd_ HB hw136_3),(hd_ HB hw136_4),(hd_ HB hw136_5)⟩)) (fun hH=>?_);refine with_tabW impl_Fair_pick.tab5 impl_Fair_pick.bits5 (fun HT_ HW_=>?_);generalize w30.drew=w31 at B132 B134 HB hx136_0 hx136_1 hx136_2 hx136_3 hx136_4 hx136_5 hH ⊢;refine psn_ HT_ ?_;refine tkn_ HT_ HW_ hH ?_;(iterate 5 (refine psn_ HT_ ?_));refine ps_ 9 23 (bm 19 639) HT_ ?_;refine ps_ 11 25 (bm 19 2687) HT_ ?_;refine tk_ 7 21 (bm 19 2815) HT_ HW_ hH ?_;refine tk_ 10 24 (bm 19 3839) HT_ HW_ hH ?_;refine ps_ 12 26 (bm 19 7935) HT_ ?_;refine ps_ 13 27 (bm 19 16127) HT_ ?_;refine tk_ 14 28 (bm 19 32511) HT_ HW_ hH ?_;refine on_ 8 (some 22) (bs 19 15) HT_ (fun K hK=>?_);refine gz_ Try.func52 (impl_VecTop.calls ((rd_T46 l0_4 x9_1).f3.f0) ((rd_T46 l0_4 x9_1).f3.f1) ((rd_T46 l0_4 x9_1).f3.f2) t135 _ A15.out) ?_;rintro e w32 ⟨rfl,hb⟩;refine⟨_,rfl,?_⟩;replace B132:=bb_ B132 hb;replace B134:=bb_ B134 hb;replace HB:=sb_ HB hb;(try clear hb);refine hK.out _ _ (bs6_ B134 (bs5_ B132 ⟨(hd_ HB hw136_0),(hd_ HB hw136_1),(hd_ HB hw136_2),(hd_ HB hw136_3),(hd_ HB hw136_4),(hd_ HB hw136_5)⟩)) (fun hH=>?_);clear hK K;refine norm_ (a':=?_) ?_ ?_;rotate_left
           ·show Act.put _ (some 22) _=_;simp only [Act.put,ls0_,ls1_,ls2_,i64_w,i32_w];rfl
           refine on_ 15 (some 29) (bs 19 16) HT_ (fun K hK=>?_);refine gz_ Try.func52 (impl_VecTop.calls ((rd_T46 l0_4 x3_1).f3.f0) ((rd_T46 l0_4 x3_1).f3.f1) ((rd_T46 l0_4 x3_1).f3.f2) t137 _ A18.out) ?_;rintro e w33 ⟨rfl,hb⟩;refine⟨_,rfl,?_⟩;replace B132:=bb_ B132 hb;replace B134:=bb_ B134 hb;replace HB:=sb_ HB hb;(try clear hb);refine hK.out _ _ (bs6_ B134 (bs5_ B132 ⟨(hd_ HB hw136_0),(hd_ HB hw136_1),(hd_ HB hw136_2),(hd_ HB hw136_3),(hd_ HB hw136_4),(hd_ HB hw136_5)⟩)) (fun hH=>?_);clear hK K;refine norm_ (a':=?_) ?_ ?_;rotate_left
           ·show Act.put _ (some 29) _=_;simp only [Act.put,ls0_,ls1_,ls2_,i64_w,i32_w];rfl
           (iterate 3 (refine psn_ HT_ ?_));refine done_ (done_of HT_.out (by kernel_rfl)) ?_
           try go_wp2
           go_roundg k1
           case measure=>have:=HK1.out;omega
           case rel=>exact⟨(x3_1),(wrap64 (x9_1+1)),re_,re_,H',⟨by have:=HK1.out;omega⟩,⟨bk_ B132⟩,⟨bf_ HB⟩⟩
         ·rw [if_neg c17]at H;exact absurd H (by simp)
        ·rw [if_neg c16]at H;exact absurd H (by simp)
      ·replace c8:=Bool.eq_false_iff.mpr c8;subst c8;rw [if_neg (show ¬ (false=true) by decide)]at H;have H':=am_ H;clear H;have p133:0≤(x9_1:Int):=od_;have q133:x9_1 < (l0_4.length:Int):=od_;obtain⟨ad133,e133,hw133_0,hw133_1,hw133_2,hw133_3,hw133_4,hw133_5⟩:=at_T46 HR0_4.out x9_1 p133 q133;(try rw [← Nbq7.out]at hw133_2);cases e133;obtain⟨hx133_0,hx133_1,hx133_2,hx133_3,hx133_4,hx133_5⟩:=hb6_ HB hw133_0 hw133_1 hw133_2 hw133_3 hw133_4 hw133_5;replace p133:=eq_true p133;replace q133:=eq_true q133
       try go_wp2_with (first|((with_reducible refine gd_ 5 rfl ?_);refine bv_ 5 #[.int .i64 0,.int .i64 0,.bool false,.int .i64 0,.int .i64 0,.int .i64 0] 46 ?_;intro gb134 hg w34 hbox hb;have B134:=am_ (hbox);have GW134:=gw_ HB hg;have GE134:=gw_ HB hg;replace HB:=sb_ HB hb;have D132_134:=nl_ B132 hg;have D134_132:=ng_ B132 hg;replace B132:=bb_ B132 hb;clear hb hbox hg;obtain⟨hnb35,hnc35⟩:=nn_ D134_132;obtain⟨Z36_0,Z36_1,Z36_2,Z36_3,Z36_4,Z36_5,F36_0,F36_1,F36_2,F36_3,F36_4,F36_5⟩:=bz6_ B134))
       generalize hW_:World.setCell _ _ _=w37;replace B132:=fc6_ hW_ B132 D132_134;replace B134:=pz6_ hW_ B134;replace HB:Aside0 (Below w.heap.size w w37):=⟨by cases hW_;exact bf_ HB⟩;clear hW_;replace B132:=bd_ B132;replace B134:=bd_ B134;replace HB:=be1_ HB;refine start_ (n:=19) (S:=fun w'=>cc6_ w' gb134 (.int .i64 ((rd_T46 l0_4 x9_1).f0)) (.int .i64 ((rd_T46 l0_4 x9_1).f1)) (.bool false) (.int .i64 ((rd_T46 l0_4 x9_1).f3.f0)) (.int .i64 ((rd_T46 l0_4 x9_1).f3.f1)) (.int .i64 ((rd_T46 l0_4 x9_1).f3.f2))) (ds:=[]) (bs 19 0) (by kernel_rfl) rfl rfl (bo6_ B134) (fun hH=>?_);refine with_tabW impl_Fair_pick.tab5 impl_Fair_pick.bits5 (fun HT_ HW_=>?_);generalize w37.drew=w38 at B132 B134 HB hH ⊢;refine psn_ HT_ ?_;refine tkn_ HT_ HW_ hH ?_;refine psn_ HT_ ?_;(iterate 15 (refine pun_ HT_ ?_));refine psn_ HT_ ?_;refine done_ (done_of HT_.out (by kernel_rfl)) ?_
       try go_wp2
       go_roundg k1
       case measure=>have:=HK1.out;omega
       case rel=>exact⟨(x3_1),(wrap64 (x9_1+1)),re_,re_,H',⟨by have:=HK1.out;omega⟩,⟨bk_ B132⟩,⟨bf_ HB⟩⟩
     ·rw [if_neg c6]at H;exact absurd H (by simp)
    ·rw [if_neg c5]at H;exact absurd H (by simp)
   ·rw [if_neg c4]at H;have c4b0:decide (x9_1 < (l0_4.length:Int))=false:=decide_eq_false c4;clear c4;obtain rfl:=Option.some.inj H;go_wp2;go_ret;exact⟨er_,bf_ HB⟩

/-! ### impl_FairPick: function 19 -/
def impl_FairPick.f (k:Nat) (a0_0:Int) (a0_1:Int) (a0_2:Int) (a0_3:Int) (l0_4:List (S46)):Option (Int):=(impl_FairOk.f k a0_0 a0_1 a0_2 a0_3 l0_4).bind fun t139=>(if t139=true then((impl_Fair_pick.f k a0_0 a0_1 a0_2 a0_3 l0_4).bind fun t140=>(if t140 < 0 then(some (-1)) else((impl_Fair_pick.f k a0_0 a0_1 a0_2 a0_3 l0_4).bind fun t141=>(if 0≤t141 then(if t141 < (l0_4.length:Int) then(some ((rd_T46 l0_4 t141).f0)) else(none)) else(none))))) else(some (-1)))
theorem impl_FairPick.mono:∀ a0 a1 a2 a3 a4 k,LeO (impl_FairPick.f k a0 a1 a2 a3 a4) (impl_FairPick.f (k+1) a0 a1 a2 a3 a4):=by
 intro a0 a1 a2 a3 a4 k;unfold impl_FairPick.f
 repeat' (first|(with_reducible exact impl_FairOk.mono _ _ _ _ _ _)|(with_reducible exact impl_Fair_pick.mono _ _ _ _ _ _)|(with_reducible exact LeO.refl _)|(with_reducible exact LeO.none _)|(with_reducible refine LeO.ite ?_ ?_)|(with_reducible refine LeO.bind ?_ (fun _=>?_))|exact impl_FairOk.mono _ _ _ _ _ _|exact impl_Fair_pick.mono _ _ _ _ _ _|exact LeO.none _|refine LeO.ite ?_ ?_|refine LeO.bind ?_ (fun _=>?_))
def impl_FairPick.T3:Bool × List (List Nat × List Nat):=(true,[([],[]),([0],[0]),([],[]),([2],[2]),([1,3],[1,3]),([4],[4]),([5],[5]),([6,3,0,1,2,3,4,5,6],[6])])
def impl_FairPick.B3:List Nat:=[0,1,0,4,15,31,63,127]
theorem impl_FairPick.tab3:rtab .any (opsOf Try.f19 3)=impl_FairPick.T3:=by kernel_rfl
theorem impl_FairPick.bits3:waitsOk impl_FairPick.T3.2 impl_FairPick.B3=true:=by kernel_rfl
set_option maxHeartbeats 8000000 in
set_option maxRecDepth 100000 in
theorem impl_FairPick.calls (k:Nat) (a0_0:Int) (a0_1:Int) (a0_2:Int) (a0_3:Int) (A0_4:Option Addr) (c0_4:Nat) (l0_4:List (S46)) (r:Int) (w:World) (hr0_4:Kd.C k46 w A0_4 l0_4.length l0_4) (hc0_4:l0_4.length≤c0_4) (h:impl_FairPick.f k a0_0 a0_1 a0_2 a0_3 l0_4=some r) :
  Calls Try.prog 19 #[.agg #[.int .i64 a0_0,.int .i64 a0_1,.int .i64 a0_2,.int .i64 a0_3,.slice A0_4 l0_4.length c0_4]] w fun e w'=>e=.returned (.int .i64 r)∧Below w.heap.size w w':=by
 have hu31:=Try.underlying31;have HR0_4:=am_ hr0_4;have HC0_4:=am_ hc0_4;clear hr0_4 hc0_4;have HB:=am_ (Below.refl w.heap.size w);have H:=h;clear h;unfold impl_FairPick.f at H;replace H:=bm1_ H;obtain⟨t139,A2,H⟩:=H
 by_cases c3:t139=true
 ·subst c3;rw [if_pos rfl]at H;replace H:=bm1_ H;obtain⟨t140,A4,H⟩:=H
  by_cases c5:t140 < 0
  ·rw [if_pos c5]at H;have c5b0:decide (t140 < 0)=true:=decide_eq_true c5;clear c5;obtain rfl:=Option.some.inj H
   go_enter Try.func19,Try.ntmps19
   go_wp2_with (first|((with_reducible refine gd_ 1 rfl ?_);refine bv_ 1 #[.int .i64 a0_0,.int .i64 a0_1,.int .i64 a0_2,.int .i64 a0_3,.slice A0_4 l0_4.length c0_4] 31 ?_;intro gb138 hg w6 hbox hb;have B138:=am_ (hbox);have GW138:=gw_ HB hg;have GE138:=gw_ HB hg;replace HB:=am_ (below_step (be_ HB) hb);clear hb hbox hg;obtain⟨Z7_0,Z7_1,Z7_2,Z7_3,Z7_4,F7_0,F7_1,F7_2,F7_3,F7_4⟩:=bz5_ B138)|((with_reducible refine gc_ 21 rfl ?_);refine gk_ 4 Try.func21 (impl_FairOk.calls k a0_0 a0_1 a0_2 a0_3 _ _ l0_4 true _ ?side1 ?side2 A2.out) ?_;(case side1=>repeat (first|exact(Kd.C_below HR0_4.out HB.out)|(with_reducible refine Kd.C_alloc ?_ _)|(with_reducible refine Kd.C_drewN ?_ _)|(with_reducible refine Kd.C_drew ?_)));(case side2=>exact HC0_4.out);rintro e w8 ⟨rfl,hb⟩;refine⟨_,rfl,?_⟩;replace B138:=bb_ B138 hb;replace HB:=sb_ HB hb;clear hb;obtain⟨Z9_0,Z9_1,Z9_2,Z9_3,Z9_4,F9_0,F9_1,F9_2,F9_3,F9_4⟩:=bz5_ B138)|(go_at_call 50;(with_reducible refine(impl_Fair_pick.calls k a0_0 a0_1 a0_2 a0_3 _ _ l0_4 t140 _ ?side1 ?side2 A4.out).mono ?_);(case side1=>repeat (first|exact(Kd.C_below HR0_4.out HB.out)|(with_reducible refine Kd.C_alloc ?_ _)|(with_reducible refine Kd.C_drewN ?_ _)|(with_reducible refine Kd.C_drew ?_)));(case side2=>exact HC0_4.out);rintro e w10 ⟨rfl,hb⟩;replace B138:=bb_ B138 hb;replace HB:=sb_ HB hb;clear hb));go_ret;exact⟨er_,bf_ HB⟩
  ·rw [if_neg c5]at H;have c5b0:decide (t140 < 0)=false:=decide_eq_false c5;clear c5;replace H:=bm1_ H;obtain⟨t141,A11,H⟩:=H
   by_cases c12:0≤t141
   ·rw [if_pos c12]at H;have c12b0:decide (0≤t141)=true:=decide_eq_true c12;clear c12
    by_cases c13:t141 < (l0_4.length:Int)
    ·rw [if_pos c13]at H;have c13b0:decide (t141 < (l0_4.length:Int))=true:=decide_eq_true c13;clear c13;obtain rfl:=Option.some.inj H
     go_enter Try.func19,Try.ntmps19
     try go_wp2_with (first|((with_reducible refine gd_ 1 rfl ?_);refine bv_ 1 #[.int .i64 a0_0,.int .i64 a0_1,.int .i64 a0_2,.int .i64 a0_3,.slice A0_4 l0_4.length c0_4] 31 ?_;intro gb138 hg w14 hbox hb;have B138:=am_ (hbox);have GW138:=gw_ HB hg;have GE138:=gw_ HB hg;replace HB:=am_ (below_step (be_ HB) hb);clear hb hbox hg;obtain⟨Z15_0,Z15_1,Z15_2,Z15_3,Z15_4,F15_0,F15_1,F15_2,F15_3,F15_4⟩:=bz5_ B138)|((with_reducible refine gc_ 21 rfl ?_);refine gk_ 4 Try.func21 (impl_FairOk.calls k a0_0 a0_1 a0_2 a0_3 _ _ l0_4 true _ ?side1 ?side2 A2.out) ?_;(case side1=>repeat (first|exact(Kd.C_below HR0_4.out HB.out)|(with_reducible refine Kd.C_alloc ?_ _)|(with_reducible refine Kd.C_drewN ?_ _)|(with_reducible refine Kd.C_drew ?_)));(case side2=>exact HC0_4.out);rintro e w16 ⟨rfl,hb⟩;refine⟨_,rfl,?_⟩;replace B138:=bb_ B138 hb;replace HB:=sb_ HB hb;clear hb;obtain⟨Z17_0,Z17_1,Z17_2,Z17_3,Z17_4,F17_0,F17_1,F17_2,F17_3,F17_4⟩:=bz5_ B138)|(go_at_call 50;(with_reducible refine(impl_Fair_pick.calls k a0_0 a0_1 a0_2 a0_3 _ _ l0_4 t140 _ ?side1 ?side2 A4.out).mono ?_);(case side1=>repeat (first|exact(Kd.C_below HR0_4.out HB.out)|(with_reducible refine Kd.C_alloc ?_ _)|(with_reducible refine Kd.C_drewN ?_ _)|(with_reducible refine Kd.C_drew ?_)));(case side2=>exact HC0_4.out);rintro e w18 ⟨rfl,hb⟩;replace B138:=bb_ B138 hb;replace HB:=sb_ HB hb;clear hb))
     replace B138:=bd_ B138;replace HB:=be1_ HB;have p142:0≤(t141:Int):=od_;have q142:t141 < (l0_4.length:Int):=od_;obtain⟨ad142,e142,hw142_0,hw142_1,hw142_2,hw142_3,hw142_4,hw142_5⟩:=at_T46 HR0_4.out t141 p142 q142;cases e142;obtain⟨hx142_0,hx142_1,hx142_2,hx142_3,hx142_4,hx142_5⟩:=hb6_ HB hw142_0 hw142_1 hw142_2 hw142_3 hw142_4 hw142_5;replace p142:=eq_true p142;replace q142:=eq_true q142;refine start_ (n:=8) (S:=fun w'=>cb5_ w' gb138 (.int .i64 a0_0) (.int .i64 a0_1) (.int .i64 a0_2) (.int .i64 a0_3) (.slice (some ad142) l0_4.length c0_4) (cg6_ w' (ad142.add ((t141).toNat * 6)) (.int .i64 ((rd_T46 l0_4 t141).f0)) (.int .i64 ((rd_T46 l0_4 t141).f1)) (.bool ((rd_T46 l0_4 t141).f2)) (.int .i64 ((rd_T46 l0_4 t141).f3.f0)) (.int .i64 ((rd_T46 l0_4 t141).f3.f1)) (.int .i64 ((rd_T46 l0_4 t141).f3.f2)))) (ds:=[]) (bs 8 0) (by kernel_rfl) rfl rfl (bs5_ B138 ⟨(hd_ HB hw142_0),(hd_ HB hw142_1),(hd_ HB hw142_2),(hd_ HB hw142_3),(hd_ HB hw142_4),(hd_ HB hw142_5)⟩) (fun hH=>?_);refine with_tabW impl_FairPick.tab3 impl_FairPick.bits3 (fun HT_ HW_=>?_);generalize w18.drew=w19 at B138 HB hx142_0 hx142_1 hx142_2 hx142_3 hx142_4 hx142_5 hH ⊢;refine psn_ HT_ ?_;(iterate 2 (refine tkn_ HT_ HW_ hH ?_));refine on_ 3 (some 14) (bs 8 4) HT_ (fun K hK=>?_);refine gz_ Try.func50 (impl_Fair_pick.calls k a0_0 a0_1 a0_2 a0_3 _ _ l0_4 t141 _ ?side1 ?side2 A11.out) ?_;(case side1=>repeat (first|exact(Kd.C_below HR0_4.out HB.out)|(with_reducible refine Kd.C_alloc ?_ _)|(with_reducible refine Kd.C_drewN ?_ _)|(with_reducible refine Kd.C_drew ?_)));(case side2=>exact HC0_4.out);rintro e w20 ⟨rfl,hb⟩;refine⟨_,rfl,?_⟩;replace B138:=bb_ B138 hb;replace HB:=sb_ HB hb;(try clear hb);refine hK.out _ _ (bs5_ B138 ⟨(hd_ HB hw142_0),(hd_ HB hw142_1),(hd_ HB hw142_2),(hd_ HB hw142_3),(hd_ HB hw142_4),(hd_ HB hw142_5)⟩) (fun hH=>?_);clear hK K;refine norm_ (a':=?_) ?_ ?_;rotate_left
     ·show Act.put _ (some 14) _=_;simp only [Act.put,ls0_,ls1_,ls2_,i64_w,i32_w];rfl
     (iterate 2 (refine psn_ HT_ ?_));refine tkn_ HT_ HW_ hH ?_;refine psn_ HT_ ?_;refine done_ (done_of HT_.out (by kernel_rfl)) ?_
     try go_wp2
     go_ret;exact⟨er_,bf_ HB⟩
    ·rw [if_neg c13]at H;exact absurd H (by simp)
   ·rw [if_neg c12]at H;exact absurd H (by simp)
 ·replace c3:=Bool.eq_false_iff.mpr c3;subst c3;rw [if_neg (show ¬ (false=true) by decide)]at H;obtain rfl:=Option.some.inj H
  go_enter Try.func19,Try.ntmps19
  go_wp2_with (first|((with_reducible refine gd_ 1 rfl ?_);refine bv_ 1 #[.int .i64 a0_0,.int .i64 a0_1,.int .i64 a0_2,.int .i64 a0_3,.slice A0_4 l0_4.length c0_4] 31 ?_;intro gb138 hg w21 hbox hb;have B138:=am_ (hbox);have GW138:=gw_ HB hg;have GE138:=gw_ HB hg;replace HB:=am_ (below_step (be_ HB) hb);clear hb hbox hg;obtain⟨Z22_0,Z22_1,Z22_2,Z22_3,Z22_4,F22_0,F22_1,F22_2,F22_3,F22_4⟩:=bz5_ B138)|((with_reducible refine gc_ 21 rfl ?_);refine gk_ 4 Try.func21 (impl_FairOk.calls k a0_0 a0_1 a0_2 a0_3 _ _ l0_4 false _ ?side1 ?side2 A2.out) ?_;(case side1=>repeat (first|exact(Kd.C_below HR0_4.out HB.out)|(with_reducible refine Kd.C_alloc ?_ _)|(with_reducible refine Kd.C_drewN ?_ _)|(with_reducible refine Kd.C_drew ?_)));(case side2=>exact HC0_4.out);rintro e w23 ⟨rfl,hb⟩;refine⟨_,rfl,?_⟩;replace B138:=bb_ B138 hb;replace HB:=sb_ HB hb;clear hb));go_ret;exact⟨er_,bf_ HB⟩

/-! ### spec_VecTop: function 23 -/
def spec_VecTop.f (a0_0:Int) (a0_1:Int) (a0_2:Int):Option (Int):=some (mx (mx a0_0 a0_1) a0_2)
set_option maxHeartbeats 8000000 in
set_option maxRecDepth 100000 in
theorem spec_VecTop.calls (a0_0:Int) (a0_1:Int) (a0_2:Int) (r:Int) (w:World) (h:spec_VecTop.f a0_0 a0_1 a0_2=some r) :
  Calls Try.prog 23 #[.agg #[.int .i64 a0_0,.int .i64 a0_1,.int .i64 a0_2]] w fun e w'=>e=.returned (.int .i64 r)∧Below w.heap.size w w':=by
 have hu28:=Try.underlying28;have HB:=am_ (Below.refl w.heap.size w);have H:=h;clear h;unfold spec_VecTop.f at H;obtain⟨ji2,hji2⟩:∃ j_:Int,(mx a0_0 a0_1)=j_:=⟨_,rfl⟩;replace H:(some (mx (ji2) a0_2))=some r:=(by first|(rw [hji2]at H;exact H)|(simp only [hji2]at H ⊢;exact H));have hji2_:(if a0_0 < a0_1 then a0_1 else a0_0)=ji2:=hji2;obtain⟨ji3,hji3⟩:∃ j_:Int,(mx (ji2) a0_2)=j_:=⟨_,rfl⟩;replace H:(some ji3)=some r:=(by first|(rw [hji3]at H;exact H)|(simp only [hji3]at H ⊢;exact H));have hji3_:(if (ji2) < a0_2 then a0_2 else(ji2))=ji3:=hji3;obtain rfl:=Option.some.inj H
 go_enter Try.func23,Try.ntmps23
 go_wp2_with (first|((with_reducible refine gd_ 1 rfl ?_);refine bv_ 1 #[.int .i64 a0_0,.int .i64 a0_1,.int .i64 a0_2] 28 ?_;intro gb143 hg w4 hbox hb;have B143:=am_ (hbox);have GW143:=gw_ HB hg;have GE143:=gw_ HB hg;replace HB:=am_ (below_step (be_ HB) hb);clear hb hbox hg;obtain⟨Z5_0,Z5_1,Z5_2,F5_0,F5_1,F5_2⟩:=bz3_ B143));go_ret;exact⟨by first|rfl|(simp [errW_none,errW_some]<;>rfl)|(simp only [← hji2,← hji3];first|rfl|(simp [errW_none,errW_some]<;>rfl))|(simp [*,errW_none,errW_some]<;>rfl),bf_ HB⟩

/-! ### spec_Stride: function 24 -/
def spec_Stride.f (a0:Int):Option (Int):=if a0 < 1 then(some 0) else(if a0 > 10 then(some 0) else(if a0=0 then(none) else(some (wrap64 ((2520:Int) / a0)))))
set_option maxHeartbeats 8000000 in
set_option maxRecDepth 100000 in
theorem spec_Stride.calls (a0:Int) (r:Int) (w:World) (h:spec_Stride.f a0=some r) :
  Calls Try.prog 24 #[.int .i64 a0] w fun e w'=>e=.returned (.int .i64 r)∧Drawn0 w w':=by
 have H:=h;clear h;unfold spec_Stride.f at H
 by_cases c2:a0 < 1
 ·rw [if_pos c2]at H;have c2b0:decide (a0 < 1)=true:=decide_eq_true c2;clear c2;obtain rfl:=Option.some.inj H
  go_enter Try.func24,Try.ntmps24
  go_wp2;go_ret;exact⟨by first|rfl|(simp;rw [Int.tdiv_eq_ediv_of_nonneg]<;>first|decide|omega)|(simp;done)|(simp [*];done),by repeat (first|exact Drawn0.refl _|apply Drawn0.step)⟩
 ·rw [if_neg c2]at H;have c2b0:decide (a0 < 1)=false:=decide_eq_false c2;clear c2
  by_cases c3:a0 > 10
  ·rw [if_pos c3]at H;have c3b0:decide (10 < a0)=true:=decide_eq_true c3;clear c3;obtain rfl:=Option.some.inj H
   go_enter Try.func24,Try.ntmps24
   go_wp2;go_ret;exact⟨by first|rfl|(simp;rw [Int.tdiv_eq_ediv_of_nonneg]<;>first|decide|omega)|(simp;done)|(simp [*];done),by repeat (first|exact Drawn0.refl _|apply Drawn0.step)⟩
  ·rw [if_neg c3]at H;have c3b0:decide (10 < a0)=false:=decide_eq_false c3;clear c3
   by_cases c4:a0=0
   ·rw [if_pos c4]at H;exact absurd H (by simp)
   ·rw [if_neg c4]at H;have c4b0:(a0 == 0)=false:=beq_eq_false_iff_ne.mpr c4;have c4b1:(a0 != 0)=true:=bne_iff_ne.mpr c4;obtain rfl:=Option.some.inj H
    go_enter Try.func24,Try.ntmps24
    go_wp2;go_ret;exact⟨by first|rfl|(simp;rw [Int.tdiv_eq_ediv_of_nonneg]<;>first|decide|omega)|(simp;done)|(simp [*];done),by repeat (first|exact Drawn0.refl _|apply Drawn0.step)⟩

/-! ### impl_Kid_69: function 69 -/
def impl_Kid_69.f (l0:List (S46)):Option ((List (S46))):=(some (([]:List (S46)):List (S46))).bind fun y144=>(if y144.length+l0.length < 2932031007402 then(some (y144 ++ l0)) else(none))
set_option maxHeartbeats 8000000 in
set_option maxRecDepth 100000 in
theorem impl_Kid_69.calls_some (A0:Addr) (c0:Nat) (l0:List (S46)) (r:List (S46)) (w:World) (hr0:Kd.C k46 w (some A0) l0.length l0) (hc0:l0.length≤c0) (h:impl_Kid_69.f l0=some r) :
  Calls Try.prog 69 #[.slice (some A0) l0.length c0] w fun e w'=>∃ v0_:Value,e=.returned (v0_)∧Kd.R k46 46 w' w.heap.size (fun _=>True) v0_ r∧Below w.heap.size w w':=by
 have hnil0_:=fun (W:World) (n c:Nat)=>Lib.run_eql_slice_nil (P:=Try.prog) W 29 46 (some A0) n c 0 0 Try.underlying29;have HR0:=am_ hr0;have HC0:=am_ hc0;clear hr0 hc0;have HB:=am_ (Below.refl w.heap.size w);have H:((some (([]:List (S46)):List (S46))).bind fun y144=>(if y144.length+l0.length < 2932031007402 then(some (y144 ++ l0)) else(none)))=some r:=h;clear h;obtain⟨y144,hy144⟩:∃ y_:List (S46),y_=(([]:List (S46))):=⟨_,rfl⟩;replace H:(if y144.length+l0.length < 2932031007402 then(some (y144 ++ l0)) else(none))=some r:=(by first|(rw [hy144];with_reducible exact H)|(have H2_:=(Option.bind_some _ _).symm.trans H;rw [hy144];with_reducible exact H2_)|(have H2_:=(Option.bind_some _ _).symm.trans H;with_reducible exact H2_)|with_reducible exact H|(rw [hy144];exact H)|exact H);have Ny144:=am_ hy144;clear hy144
 by_cases c2:y144.length+l0.length < 2932031007402
 ·rw [if_pos c2]at H;have LMc2:=am_ c2;clear c2;obtain⟨y147,hy147⟩:∃ y_:List (S46),y_=(y144 ++ l0):=⟨_,rfl⟩;replace H:(some y147)=some r:=(by first|(rw [hy147];with_reducible exact H)|(have H2_:=(Option.bind_some _ _).symm.trans H;rw [hy147];with_reducible exact H2_)|(have H2_:=(Option.bind_some _ _).symm.trans H;with_reducible exact H2_)|with_reducible exact H|(rw [hy147];exact H)|exact H);have Ny147:=am_ hy147;clear hy147;obtain rfl:=Option.some.inj H
  go_enter Try.func69,Try.ntmps69
  go_wp2_with (first|((with_reducible refine gd_ 5 rfl ?_);refine Kd.R_lit k46 _ 46 ?hg (N:=5) ?hd (xs:=([]:List (S46))) (inner:=[]) (ok:=fun _=>True) (okp:=fun _=>True) ?hr ?hp (fun _ hk=>by first|exact hk|grind) trivial (Below.refl _ _) (Nat.le_refl _) (by simp) ?_;(case hd=>rfl);(case hg=>rfl);(case hr=>first|(go_simp;done)|(go_simp;rfl));(case hp=>exact(Reps.none _ _));intro v145 w3 ho4 hb hg_ hnew_;clear hg_ hnew_;(first|rw [← Ny144.out]at ho4|(simp only [Int.reduceToNat]at ho4;rw [← Ny144.out]at ho4));have HO146:=am_ (Kd.R_lower ho4 (below_size (be_ HB)));replace HB:=am_ (below_step (be_ HB) hb);clear hb ho4)|((with_reducible refine gate_builtin (b:=.append) (xs:=#[.tmp 5,.tmp 6]) rfl ?_);at_builtin;refine Kd.R_append_rows k46 (w0:=w) w.heap.size rfl (.tmp 5) (.tmp 6) 29 46 (.agg #[(.int .i64 0),(.int .i64 0),(.bool false),(.int .i64 0),(.int .i64 0),(.int .i64 0)]) 48 rfl Try.underlying29 info46 rfl (by decide) (by omega) v145 y144 l0 _ _ _ (fun _=>True) (fun _=>False) rfl rfl ?aO ?aR (fun _ _ h=>h) (fun _ h=>h.elim) ?aF ?aB ?aS ?aL ?_;(case aR=>repeat (first|exact(Kd.C_below HR0.out HB.out)|(with_reducible refine Kd.C_alloc ?_ _)|(with_reducible refine Kd.C_drewN ?_ _)|(with_reducible refine Kd.C_drew ?_)));(case aB=>exact(be_ HB));(case aF=>exact(fun _ _=>trivial));(case aO=>exact(kr_ HO146));(case aS=>exact(below_size (be_ HB)));(case aL=>have:=LMc2.out;omega);intro v148 w5 ho hb hg hat;rw [← Ny147.out]at ho;replace HB:=am_ (hb);have HO149:=am_ (ho);clear HO146 ho hb hg hat));go_ret;exact⟨_,er_,by(with_reducible repeat (first|apply Kd.R_alloc|apply Kd.R_drewN|apply Kd.R_drew));exact HO149.out,be_ HB⟩
 ·rw [if_neg c2]at H;exact absurd H (by simp)
set_option maxHeartbeats 8000000 in
set_option maxRecDepth 100000 in
theorem impl_Kid_69.calls (A0:Option Addr) (c0:Nat) (l0:List (S46)) (r:List (S46)) (w:World) (hr0:Kd.C k46 w A0 l0.length l0) (hc0:l0.length≤c0) (h:impl_Kid_69.f l0=some r) :
  Calls Try.prog 69 #[.slice A0 l0.length c0] w fun e w'=>∃ v0_:Value,e=.returned (v0_)∧Kd.R k46 46 w' w.heap.size (fun _=>True) v0_ r∧Below w.heap.size w w':=by
  cases A0 with
  | some a_=>exact impl_Kid_69.calls_some a_ c0 l0 r w hr0 hc0 h
  | none =>
    obtain rfl:l0=[]:=by
      rcases l0 with _|⟨x_,t_⟩
      · rfl
      ·obtain⟨ad_,h0_,_⟩:=hr0.2.2 (by simp);cases h0_
    obtain rfl:r=[]:=by simpa [impl_Kid_69.f] using h.symm
    have hnil0_:=fun (W:World) (n c:Nat)=>Lib.run_eql_slice_nil (P:=Try.prog) W 29 46 none n c 0 0 Try.underlying29;clear hr0 hc0 h
    go_enter Try.func69,Try.ntmps69
    go_wp2;go_ret;exact⟨_,rfl,Kd.R_nil _ _ _ _ _,Below.refl _ _⟩

/-! ### impl_copyFair: function 38 -/
def impl_copyFair.f (a0_0:Int) (a0_1:Int) (a0_2:Int) (a0_3:Int) (l0_4:List (S46)):Option (Int × Int × Int × Int × (List (S46))):=(impl_Kid_69.f l0_4).bind fun t152=>(some (a0_0,a0_1,a0_2,a0_3,t152))
def impl_copyFair.T1:Bool × List (List Nat × List Nat):=(true,[([],[]),([0],[0]),([],[]),([2],[2]),([],[]),([4],[4]),([5],[5]),([1,3,6],[1,3,6]),([7,6,0,1,2,3,4,5,6,7],[7])])
def impl_copyFair.B1:List Nat:=[0,1,0,4,0,16,48,127,255]
theorem impl_copyFair.tab1:rtab .any (opsOf Try.f38 1)=impl_copyFair.T1:=by kernel_rfl
theorem impl_copyFair.bits1:waitsOk impl_copyFair.T1.2 impl_copyFair.B1=true:=by kernel_rfl
set_option maxHeartbeats 8000000 in
set_option maxRecDepth 100000 in
theorem impl_copyFair.calls (a0_0:Int) (a0_1:Int) (a0_2:Int) (a0_3:Int) (A0_4:Option Addr) (c0_4:Nat) (l0_4:List (S46)) (r1:Int) (r2:Int) (r3:Int) (r4:Int) (r5:List (S46)) (w:World) (hr0_4:Kd.C k46 w A0_4 l0_4.length l0_4) (hc0_4:l0_4.length≤c0_4) (h:impl_copyFair.f a0_0 a0_1 a0_2 a0_3 l0_4=some (r1,r2,r3,r4,r5)) :
  Calls Try.prog 38 #[.agg #[.int .i64 a0_0,.int .i64 a0_1,.int .i64 a0_2,.int .i64 a0_3,.slice A0_4 l0_4.length c0_4]] w fun e w'=>∃ v4_:Value,e=.returned (.agg #[.int .i64 r1,.int .i64 r2,.int .i64 r3,.int .i64 r4,v4_])∧Kd.R k46 46 w' w.heap.size (fun _=>True) v4_ r5∧Below w.heap.size w w':=by
 have hu31:=Try.underlying31;have hu28:=Try.underlying28;have HR0_4:=am_ hr0_4;have HC0_4:=am_ hc0_4;clear hr0_4 hc0_4;have HB:=am_ (Below.refl w.heap.size w);have H:=h;clear h;unfold impl_copyFair.f at H;replace H:=bm1_ H;obtain⟨t152,A2,H⟩:=H;simp only [Option.some.injEq,Prod.mk.injEq]at H;obtain⟨rfl,rfl,rfl,rfl,rfl⟩:=H
 go_enter Try.func38,Try.ntmps38
 try go_wp2_with (first|((with_reducible refine gd_ 1 rfl ?_);refine bv_ 1 #[.int .i64 a0_0,.int .i64 a0_1,.int .i64 a0_2,.int .i64 a0_3,.slice A0_4 l0_4.length c0_4] 31 ?_;intro gb150 hg w3 hbox hb;have B150:=am_ (hbox);have GW150:=gw_ HB hg;have GE150:=gw_ HB hg;replace HB:=am_ (below_step (be_ HB) hb);clear hb hbox hg)|((with_reducible refine gd_ 2 rfl ?_);refine bv_ 2 #[.int .i64 0,.int .i64 0,.int .i64 0,.int .i64 0,.slice none 0 0] 31 ?_;intro gb151 hg w4 hbox hb;have B151:=am_ (hbox);have GW151:=gw_ HB hg;have GE151:=gw_ HB hg;replace HB:=sb_ HB hb;have D150_151:=nl_ B150 hg;have D151_150:=ng_ B150 hg;replace B150:=bb_ B150 hb;clear hb hbox hg))
 replace B150:=bd_ B150;replace B151:=bd_ B151;replace HB:=be1_ HB;refine start_ (n:=9) (S:=fun w'=>cc5_ w' gb150 (.int .i64 a0_0) (.int .i64 a0_1) (.int .i64 a0_2) (.int .i64 a0_3) (.slice A0_4 l0_4.length c0_4)) (ds:=[]) (bs 9 0) (by kernel_rfl) rfl rfl (bo5_ B150) (fun hH=>?_);refine with_tabW impl_copyFair.tab1 impl_copyFair.bits1 (fun HT_ HW_=>?_);generalize w4.drew=w5 at B150 B151 HB hH ⊢;refine psn_ HT_ ?_;refine ps_ 2 5 (bm 9 5) HT_ ?_;refine ps_ 4 7 (bm 9 21) HT_ ?_;refine tk_ 1 4 (bm 9 23) HT_ HW_ hH ?_;refine tk_ 3 6 (bs 9 5) HT_ HW_ hH ?_;refine tkn_ HT_ HW_ hH ?_;refine on_ 6 (some 9) (bs 9 7) HT_ (fun K hK=>?_);refine gz_ Try.func69 (impl_Kid_69.calls _ _ l0_4 t152 _ ?side1 ?side2 A2.out) ?_;(case side1=>repeat (first|exact(Kd.C_below HR0_4.out HB.out)|(with_reducible refine Kd.C_alloc ?_ _)|(with_reducible refine Kd.C_drewN ?_ _)|(with_reducible refine Kd.C_drew ?_)));(case side2=>exact HC0_4.out);rintro e w6 ⟨v153,rfl,ho0,hb⟩;refine⟨_,rfl,?_⟩;have HO154:=am_ (Kd.R_lower ho0 (below_size (bf_ HB)));replace B150:=bb_ B150 hb;replace B151:=bb_ B151 hb;replace HB:=sb_ HB hb;(try clear hb);(try clear ho0);obtain⟨Ao7,co7,eo7⟩:=Kd.R_slice HO154.out;(first|subst eo7|(injection eo7 with f1_ f2_ f3_;have f4_:=f1_.symm;have f5_:=f3_.symm;clear f1_ f2_ f3_;subst f4_;subst f5_));refine hK.out _ _ (bo5_ B150) (fun hH=>?_);clear hK K;refine norm_ (a':=?_) ?_ ?_;rotate_left
 ·show Act.put _ (some 9) _=_;simp only [Act.put,ls0_,ls1_,ls2_,i64_w,i32_w];rfl
 refine psn_ HT_ ?_;refine on_ 8 none (bs 9 9) HT_ (fun K hK=>?_);have hs8:=bc_ B151 0 (.int .i64 0) rfl;have hfs8:=blk_frozen B151.out 0;obtain⟨hns8_0,hms8_0⟩:=nn_ D150_151;have hs9:=bc_ B151 1 (.int .i64 0) rfl;have hfs9:=blk_frozen B151.out 1;obtain⟨hns9_0,hms9_0⟩:=nn_ D150_151;have hs10:=bc_ B151 2 (.int .i64 0) rfl;have hfs10:=blk_frozen B151.out 2;obtain⟨hns10_0,hms10_0⟩:=nn_ D150_151;have hs11:=bc_ B151 3 (.int .i64 0) rfl;have hfs11:=blk_frozen B151.out 3;obtain⟨hns11_0,hms11_0⟩:=nn_ D150_151;have hs12:=bc_ B151 4 (.slice none 0 0) rfl;have hfs12:=blk_frozen B151.out 4;obtain⟨hns12_0,hms12_0⟩:=nn_ D150_151;refine skip_ (w1:=?_) (by rfl) rfl ?_ ?_;rotate_left
 ·go_simp;rfl
 refine hK.out _ _ ⟨(cf5_ D150_151.out hH.1),(cf5_ D150_151.out hH.2.1),(cf5_ D150_151.out hH.2.2.1),(cf5_ D150_151.out hH.2.2.2.1),(cf5_ D150_151.out hH.2.2.2.2)⟩ (fun hH=>?_);clear hK K;refine done_ (done_of HT_.out (by kernel_rfl)) ?_
 try go_wp2
 refine bodyPost_ret (results_cell_row rfl _ _ gb151 31 #[.int .i64 a0_0,.int .i64 a0_1,.int .i64 a0_2,.int .i64 a0_3,.slice Ao7 t152.length co7] (0,0) _ rfl (bq_ B151) Try.underlying31 rfl (by kernel_rfl)) rfl ?_;exact⟨_,er_,kf_ HO154 B151,bf_ HB⟩

/-! ### impl_ChargeOk: function 54 -/
def impl_ChargeOk.f (a0_0:Int) (a0_1:Int) (a0_2:Int):Option (Bool):=(impl_Vec_isFrom.f a0_0 a0_1 a0_2 1 2000).bind fun t156=>(some t156)
set_option maxHeartbeats 8000000 in
set_option maxRecDepth 100000 in
theorem impl_ChargeOk.calls (a0_0:Int) (a0_1:Int) (a0_2:Int) (r:Bool) (w:World) (h:impl_ChargeOk.f a0_0 a0_1 a0_2=some r) :
  Calls Try.prog 54 #[.agg #[.int .i64 a0_0,.int .i64 a0_1,.int .i64 a0_2]] w fun e w'=>e=.returned (.bool r)∧Below w.heap.size w w':=by
 have hu28:=Try.underlying28;have HB:=am_ (Below.refl w.heap.size w);have H:=h;clear h;unfold impl_ChargeOk.f at H;replace H:=bm1_ H;obtain⟨t156,A2,H⟩:=H;obtain rfl:=Option.some.inj H
 go_enter Try.func54,Try.ntmps54
 go_wp2_with (first|((with_reducible refine gd_ 1 rfl ?_);refine bv_ 1 #[.int .i64 a0_0,.int .i64 a0_1,.int .i64 a0_2] 28 ?_;intro gb155 hg w3 hbox hb;have B155:=am_ (hbox);have GW155:=gw_ HB hg;have GE155:=gw_ HB hg;replace HB:=am_ (below_step (be_ HB) hb);clear hb hbox hg;obtain⟨Z4_0,Z4_1,Z4_2,F4_0,F4_1,F4_2⟩:=bz3_ B155)|((with_reducible refine gc_ 82 rfl ?_);refine gk_ 4 Try.func82 (impl_Vec_isFrom.calls a0_0 a0_1 a0_2 1 2000 t156 _ A2.out) ?_;rintro e w5 ⟨rfl,hb⟩;refine⟨_,rfl,?_⟩;replace B155:=bb_ B155 hb;replace HB:=sb_ HB hb;clear hb));go_ret;exact⟨er_,bf_ HB⟩

-- NOT PRINTED: function 84 (impl_both)

/-! ### impl_VecMost_1: function 85 -/
def impl_VecMost_1.f (a0:Int) (a1:Int):Option (Int):=some (mx a0 a1)
set_option maxHeartbeats 8000000 in
set_option maxRecDepth 100000 in
theorem impl_VecMost_1.calls (a0:Int) (a1:Int) (r:Int) (w:World) (h:impl_VecMost_1.f a0 a1=some r) :
  Calls Try.prog 85 #[.int .i64 a0,.int .i64 a1] w fun e w'=>e=.returned (.int .i64 r)∧Below w.heap.size w w':=by
 have HB:=am_ (Below.refl w.heap.size w);have H:=h;clear h;unfold impl_VecMost_1.f at H;obtain⟨ji3,hji3⟩:∃ j_:Int,(mx a0 a1)=j_:=⟨_,rfl⟩;replace H:(some ji3)=some r:=(by first|(rw [hji3]at H;exact H)|(simp only [hji3]at H ⊢;exact H));have hji3_:(if a0 < a1 then a1 else a0)=ji3:=hji3;obtain rfl:=Option.some.inj H
 go_enter Try.func85,Try.ntmps85
 go_wp2;go_ret;exact⟨by first|rfl|(simp [errW_none,errW_some]<;>rfl)|(simp only [← hji3];first|rfl|(simp [errW_none,errW_some]<;>rfl))|(simp [*,errW_none,errW_some]<;>rfl),be_ HB⟩

end Go.Proofs.Ytppmbdfbhahngaa.PFnPickFirst
