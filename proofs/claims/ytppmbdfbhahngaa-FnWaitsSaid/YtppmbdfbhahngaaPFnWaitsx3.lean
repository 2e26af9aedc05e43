-- printed by a program of this session (wip/printx) out of the translation; Lean checks it
import Derived.Test.YtppmbdfbhahngaaVFnWaits
import Derived.Test.YtppmbdfbhahngaaPFnWaitsx0
namespace Go.Proofs.Ytppmbdfbhahngaa.PFnWaits
open Go.RowKit Go.Proofs.YtppmbdfbhahngaaW.PrintWords Go.Proofs.YtppmbdfbhahngaaW.PrintLast Go.Proofs.YtppmbdfbhahngaaW.PrintMore
attribute [local go_sem] max2_int min2_int max_two min_two max_three min_three max_four min_four   -- for this text's walks alone
set_option linter.unusedVariables false
set_option linter.unusedSimpArgs false

/-! ### spec_l18At: function 31 -/
def spec_l18At.l0:Nat→Int→Int→Int→Int→Int→Int→List (S46)→Option (Int)
  | 0,_,_,_,_,_,_,_=>none
  | k+1,x1,x5,x128000,x128001,x128002,x128003,x128004=>if x5 < (x128004.length:Int) then(if 0≤x5 then(if ((rd_T46 x128004 x5).f0)=x1 then(some x5) else(spec_l18At.l0 k x1 (wrap64 (x5+1)) x128000 x128001 x128002 x128003 x128004)) else(none)) else(some (-1))
def spec_l18At.f (k:Nat) (a0_0:Int) (a0_1:Int) (a0_2:Int) (a0_3:Int) (l0_4:List (S46)) (a1:Int):Option (Int):=spec_l18At.l0 k a1 0 a0_0 a0_1 a0_2 a0_3 l0_4
theorem spec_l18At.mono_l:∀ k,(∀ y0 y1 y2 y3 y4 y5 y6,LeO (spec_l18At.l0 k y0 y1 y2 y3 y4 y5 y6) (spec_l18At.l0 (k+1) y0 y1 y2 y3 y4 y5 y6))
 | 0=>fun _ _ _ _ _ _ _ r h=>by simp [spec_l18At.l0]at h
 | k+1=>by
  have ih0:=spec_l18At.mono_l k
  ·intro y0 y1 y2 y3 y4 y5 y6;unfold spec_l18At.l0
   repeat' (first|(with_reducible exact ih0 ..)|(with_reducible exact LeO.refl _)|(with_reducible exact LeO.none _)|(with_reducible refine LeO.ite ?_ ?_)|(with_reducible refine LeO.bind ?_ (fun _=>?_))|exact ih0 ..|exact LeO.none _|refine LeO.ite ?_ ?_|refine LeO.bind ?_ (fun _=>?_))
theorem spec_l18At.mono:∀ a0 a1 a2 a3 a4 a5 k,LeO (spec_l18At.f k a0 a1 a2 a3 a4 a5) (spec_l18At.f (k+1) a0 a1 a2 a3 a4 a5):=by
 intro a0 a1 a2 a3 a4 a5 k;have ih0:=spec_l18At.mono_l k;unfold spec_l18At.f
 repeat' (first|(with_reducible exact ih0 ..)|(with_reducible exact LeO.refl _)|(with_reducible exact LeO.none _)|(with_reducible refine LeO.ite ?_ ?_)|(with_reducible refine LeO.bind ?_ (fun _=>?_))|exact ih0 ..|exact LeO.none _|refine LeO.ite ?_ ?_|refine LeO.bind ?_ (fun _=>?_))
set_option maxHeartbeats 8000000 in
set_option maxRecDepth 100000 in
theorem spec_l18At.calls (k:Nat) (a0_0:Int) (a0_1:Int) (a0_2:Int) (a0_3:Int) (A0_4:Option Addr) (c0_4:Nat) (l0_4:List (S46)) (a1:Int) (r:Int) (w:World) (hr0_4:Kd.C k46 w A0_4 l0_4.length l0_4) (hc0_4:l0_4.length≤c0_4) (h:spec_l18At.f k a0_0 a0_1 a0_2 a0_3 l0_4 a1=some r) :
  Calls Try.prog 31 #[.agg #[.int .i64 a0_0,.int .i64 a0_1,.int .i64 a0_2,.int .i64 a0_3,.slice A0_4 l0_4.length c0_4],.int .i64 a1] w fun e w'=>e=.returned (.int .i64 r)∧Below w.heap.size w w':=by
 have hu31:=Try.underlying31;have HR0_4:=am_ hr0_4;have HC0_4:=am_ hc0_4;clear hr0_4 hc0_4;have HB:=am_ (Below.refl w.heap.size w);have H:=h;clear h;unfold spec_l18At.f at H;have H':=am_ H;clear H
 go_enter Try.func31,Try.ntmps31
 go_wp2_with (first|((with_reducible refine gd_ 2 rfl ?_);refine bv_ 2 #[.int .i64 a0_0,.int .i64 a0_1,.int .i64 a0_2,.int .i64 a0_3,.slice A0_4 l0_4.length c0_4] 31 ?_;intro gb127 hg w3 hbox hb;have B127:=am_ (hbox);have GW127:=gw_ HB hg;have GE127:=gw_ HB hg;replace HB:=am_ (below_step (be_ HB) hb);clear hb hbox hg));(try simp only [Act.put,ls0_,ls1_,ls2_])
 go_loopg [5] k (fun kq v5 w'=>∃ (x5_1:Int),v5=.int .i64 x5_1∧Aside0 (spec_l18At.l0 kq a1 x5_1 a0_0 a0_1 a0_2 a0_3 l0_4=some r)∧Aside0 (kq≤k)∧Aside0 (w'.heap[gb127]?=some (.cells #[.int .i64 a0_0,.int .i64 a0_1,.int .i64 a0_2,.int .i64 a0_3,(.slice A0_4 l0_4.length c0_4)] 31 (0,0)))∧Aside0 (Below w.heap.size w w'))
 case atStart=>exact⟨(0),re_,H',⟨Nat.le_refl _⟩,⟨bk_ B127⟩,⟨bf_ HB⟩⟩
 case round =>
  clear H';obtain⟨x5_1,rfl,HA,HK1,B127,HB⟩:=hrel
  cases gk with
  | zero=>exact absurd HA.out (by simp [spec_l18At.l0])
  | succ k1 =>
   have H:=HA.out;clear HA;simp only [spec_l18At.l0]at H
   by_cases c4:x5_1 < (l0_4.length:Int)
   ·rw [if_pos c4]at H;have c4b0:decide (x5_1 < (l0_4.length:Int))=true:=decide_eq_true c4;clear c4
    by_cases c5:0≤x5_1
    ·rw [if_pos c5]at H;have c5b0:decide (0≤x5_1)=true:=decide_eq_true c5;clear c5
     by_cases c6:((rd_T46 l0_4 x5_1).f0)=a1
     ·rw [if_pos c6]at H;have c6b0:(((rd_T46 l0_4 x5_1).f0) == a1)=true:=beq_iff_eq.mpr c6;have c6b1:(((rd_T46 l0_4 x5_1).f0) != a1)=false:=bne_eq_false_iff_eq.mpr c6;clear c6;obtain rfl:=Option.some.inj H;obtain⟨Z7_0,Z7_1,Z7_2,Z7_3,Z7_4,F7_0,F7_1,F7_2,F7_3,F7_4⟩:=bz5_ B127;have p128:0≤(x5_1:Int):=od_;have q128:x5_1 < (l0_4.length:Int):=od_;obtain⟨ad128,e128,hw128_0,hw128_1,hw128_2,hw128_3,hw128_4,hw128_5⟩:=at_T46 HR0_4.out x5_1 p128 q128;cases e128;obtain⟨hx128_0,hx128_1,hx128_2,hx128_3,hx128_4,hx128_5⟩:=hb6_ HB hw128_0 hw128_1 hw128_2 hw128_3 hw128_4 hw128_5;replace p128:=eq_true p128;replace q128:=eq_true q128;go_wp2;go_ret;exact⟨er_,bf_ HB⟩
     ·rw [if_neg c6]at H;have c6b0:(((rd_T46 l0_4 x5_1).f0) == a1)=false:=beq_eq_false_iff_ne.mpr c6;have c6b1:(((rd_T46 l0_4 x5_1).f0) != a1)=true:=bne_iff_ne.mpr c6;have H':=am_ H;clear H;obtain⟨Z8_0,Z8_1,Z8_2,Z8_3,Z8_4,F8_0,F8_1,F8_2,F8_3,F8_4⟩:=bz5_ B127;have p128:0≤(x5_1:Int):=od_;have q128:x5_1 < (l0_4.length:Int):=od_;obtain⟨ad128,e128,hw128_0,hw128_1,hw128_2,hw128_3,hw128_4,hw128_5⟩:=at_T46 HR0_4.out x5_1 p128 q128;cases e128;obtain⟨hx128_0,hx128_1,hx128_2,hx128_3,hx128_4,hx128_5⟩:=hb6_ HB hw128_0 hw128_1 hw128_2 hw128_3 hw128_4 hw128_5;replace p128:=eq_true p128;replace q128:=eq_true q128;go_wp2
      go_roundg k1
      case measure=>have:=HK1.out;omega
      case rel=>exact⟨(wrap64 (x5_1+1)),re_,H',⟨by have:=HK1.out;omega⟩,⟨bk_ B127⟩,⟨bf_ HB⟩⟩
    ·rw [if_neg c5]at H;exact absurd H (by simp)
   ·rw [if_neg c4]at H;have c4b0:decide (x5_1 < (l0_4.length:Int))=false:=decide_eq_false c4;clear c4;obtain rfl:=Option.some.inj H;obtain⟨Z9_0,Z9_1,Z9_2,Z9_3,Z9_4,F9_0,F9_1,F9_2,F9_3,F9_4⟩:=bz5_ B127;go_wp2;go_ret;exact⟨er_,bf_ HB⟩

end Go.Proofs.Ytppmbdfbhahngaa.PFnWaits
