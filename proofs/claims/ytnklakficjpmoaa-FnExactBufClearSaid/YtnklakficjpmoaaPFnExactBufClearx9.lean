-- printed by a program of this session (wip/printx) out of the translation; Lean checks it
import Derived.Test.YtnklakficjpmoaaVFnExactBufClear
import Derived.Test.YtnklakficjpmoaaPFnExactBufClearx0
namespace Go.Proofs.Ytnklakficjpmoaa.PFnExactBufClear
open Go.RowKit Go.Proofs.YtnklakficjpmoaaW.PrintWords Go.Proofs.YtnklakficjpmoaaW.PrintLast Go.Proofs.YtnklakficjpmoaaW.PrintMore
attribute [local go_sem] max2_int min2_int max_two min_two max_three min_three max_four min_four   -- for this text's walks alone
set_option linter.unusedVariables false
set_option linter.unusedSimpArgs false

/-! ### spec_l17Lane: function 74 -/
def spec_l17Lane.l0:Nat→Int→Int→Int→Int→Int→Int→Bool→List (S80)→Option ((List (S52)))
  | 0,_,_,_,_,_,_,_,_=>none
  | k+1,x1,x5,x270000,x270001,x270002,x270003,x270004,x270005=>if x5 < (x270005.length:Int) then(if 0≤x5 then(if ((rd_T80 x270005 x5).f0)=x1 then(some ((rd_T80 x270005 x5).f1)) else(spec_l17Lane.l0 k x1 (wrap64 (x5+1)) x270000 x270001 x270002 x270003 x270004 x270005)) else(none)) else(some ([]:List (S52)))
def spec_l17Lane.f (k:Nat) (a0_0:Int) (a0_1:Int) (a0_2:Int) (a0_3:Int) (a0_4:Bool) (l0_5:List (S80)) (a1:Int):Option ((List (S52))):=spec_l17Lane.l0 k a1 0 a0_0 a0_1 a0_2 a0_3 a0_4 l0_5
theorem spec_l17Lane.mono_l:∀ k,(∀ y0 y1 y2 y3 y4 y5 y6 y7,LeO (spec_l17Lane.l0 k y0 y1 y2 y3 y4 y5 y6 y7) (spec_l17Lane.l0 (k+1) y0 y1 y2 y3 y4 y5 y6 y7))
 | 0=>fun _ _ _ _ _ _ _ _ r h=>by simp [spec_l17Lane.l0]at h
 | k+1=>by
  have ih0:=spec_l17Lane.mono_l k
  ·intro y0 y1 y2 y3 y4 y5 y6 y7;unfold spec_l17Lane.l0
   repeat' (first|(with_reducible exact ih0 ..)|(with_reducible exact LeO.refl _)|(with_reducible exact LeO.none _)|(with_reducible refine LeO.ite ?_ ?_)|(with_reducible refine LeO.bind ?_ (fun _=>?_))|exact ih0 ..|exact LeO.none _|refine LeO.ite ?_ ?_|refine LeO.bind ?_ (fun _=>?_))
theorem spec_l17Lane.mono:∀ a0 a1 a2 a3 a4 a5 a6 k,LeO (spec_l17Lane.f k a0 a1 a2 a3 a4 a5 a6) (spec_l17Lane.f (k+1) a0 a1 a2 a3 a4 a5 a6):=by
 intro a0 a1 a2 a3 a4 a5 a6 k;have ih0:=spec_l17Lane.mono_l k;unfold spec_l17Lane.f
 repeat' (first|(with_reducible exact ih0 ..)|(with_reducible exact LeO.refl _)|(with_reducible exact LeO.none _)|(with_reducible refine LeO.ite ?_ ?_)|(with_reducible refine LeO.bind ?_ (fun _=>?_))|exact ih0 ..|exact LeO.none _|refine LeO.ite ?_ ?_|refine LeO.bind ?_ (fun _=>?_))
set_option maxHeartbeats 80000000 in
set_option maxRecDepth 100000 in
theorem spec_l17Lane.calls (k:Nat) (a0_0:Int) (a0_1:Int) (a0_2:Int) (a0_3:Int) (a0_4:Bool) (P0_5_:Nat→Prop) (A0_5:Option Addr) (c0_5:Nat) (l0_5:List (S80)) (a1:Int) (r:List (S52)) (w:World) (hs0_5:Kd.V k80 80 w w.heap.size (fun k_=>P0_5_ k_) (.slice A0_5 l0_5.length c0_5) l0_5) (h:spec_l17Lane.f k a0_0 a0_1 a0_2 a0_3 a0_4 l0_5 a1=some r) :
  Calls Try.prog 74 #[.agg #[.int .i64 a0_0,.int .i64 a0_1,.int .i64 a0_2,.int .i64 a0_3,.bool a0_4,.slice A0_5 l0_5.length c0_5],.int .i64 a1] w fun e w'=>∃ v0_:Value,e=.returned (v0_)∧Kd.V k52 52 w' w.heap.size (fun k_=>(P0_5_ k_ ∨ w.heap.size≤k_)) v0_ r∧Below w.heap.size w w':=by
 have hu47:=Try.underlying47;have HO0_5:=am_ (show Kd.V k80 80 w w.heap.size (fun k_=>(P0_5_ k_ ∨ w.heap.size≤k_)) (.slice A0_5 l0_5.length c0_5) l0_5 from Kd.V_mono hs0_5 (fun k_ hk=>by first|exact .inl hk|grind));have HB:=am_ (Below.refl w.heap.size w);have H:=h;clear h;unfold spec_l17Lane.f at H;have H':=am_ H;clear H
 go_enter Try.func74,Try.ntmps74
 go_wp2_with (first|((with_reducible refine gd_ 2 rfl ?_);refine bv_ 2 #[.int .i64 a0_0,.int .i64 a0_1,.int .i64 a0_2,.int .i64 a0_3,.bool a0_4,.slice A0_5 l0_5.length c0_5] 47 ?_;intro gb269 hg w3 hbox hb;replace HO0_5:=am_ (Kd.V_below (Kd.V_elderB (by(with_reducible repeat (first|apply Kd.V_alloc|apply Kd.V_drewN|apply Kd.V_drew));exact HO0_5.out) gb269 (Nat.le_of_eq hg.symm)) hb);have B269:=am_ (hbox);have GW269:=gw_ HB hg;have GE269:=gw_ HB hg;replace HB:=am_ (below_step (be_ HB) hb);clear hb hbox hg));(try simp only [Act.put,ls0_,ls1_,ls2_])
 go_loopg [5] k (fun kq v5 w'=>∃ (x5_1:Int),v5=.int .i64 x5_1∧Aside0 (spec_l17Lane.l0 kq a1 x5_1 a0_0 a0_1 a0_2 a0_3 a0_4 l0_5=some r)∧Aside0 (kq≤k)∧Aside0 (Kd.V k80 80 w' w.heap.size (fun k_=>(P0_5_ k_ ∨ w.heap.size≤k_)∧k_≠gb269) (.slice A0_5 l0_5.length c0_5) l0_5)∧Aside0 (w'.heap[gb269]?=some (.cells #[.int .i64 a0_0,.int .i64 a0_1,.int .i64 a0_2,.int .i64 a0_3,.bool a0_4,(.slice A0_5 l0_5.length c0_5)] 47 (0,0)))∧Aside0 (Below w.heap.size w w'))
 case atStart=>exact⟨(0),re_,H',⟨Nat.le_refl _⟩,⟨by(with_reducible repeat (first|apply Kd.V_alloc|apply Kd.V_drewN|apply Kd.V_drew));exact HO0_5.out⟩,⟨bk_ B269⟩,⟨bf_ HB⟩⟩
 case round =>
  clear H';obtain⟨x5_1,rfl,HA,HK1,HO_270005,B269,HB⟩:=hrel
  cases gk with
  | zero=>exact absurd HA.out (by simp [spec_l17Lane.l0])
  | succ k1 =>
   have H:=HA.out;clear HA;simp only [spec_l17Lane.l0]at H
   by_cases c4:x5_1 < (l0_5.length:Int)
   ·rw [if_pos c4]at H;have c4b0:decide (x5_1 < (l0_5.length:Int))=true:=decide_eq_true c4;clear c4
    by_cases c5:0≤x5_1
    ·rw [if_pos c5]at H;have c5b0:decide (0≤x5_1)=true:=decide_eq_true c5;clear c5
     by_cases c6:((rd_T80 l0_5 x5_1).f0)=a1
     ·rw [if_pos c6]at H;have c6b0:(((rd_T80 l0_5 x5_1).f0) == a1)=true:=beq_iff_eq.mpr c6;have c6b1:(((rd_T80 l0_5 x5_1).f0) != a1)=false:=bne_eq_false_iff_eq.mpr c6;clear c6;obtain rfl:=Option.some.inj H;obtain⟨Z7_0,Z7_1,Z7_2,Z7_3,Z7_4,Z7_5,F7_0,F7_1,F7_2,F7_3,F7_4,F7_5⟩:=bz6_ B269;have p270:0≤(x5_1:Int):=od_;have q270:x5_1 < (l0_5.length:Int):=od_;obtain⟨ad270,A270_1,c270_1,e270,hx270_0,hx270_1,hl270_1,hi270_1⟩:=at_T80 (Kd.V_reads' HO_270005.out).2.2 x5_1 p270 q270;cases e270;obtain⟨ce270,hce270,hMe270,hcc270⟩:=Kd.V_get HO_270005.out z80 x5_1 p270 (by first|exact q270|exact od_|(have e_:=(Kd.V_reads' HO_270005.out).1;omega));obtain⟨ua270_1,uc270_1,rfl,ul270_1,ge270_1⟩:=k80_openF hMe270;have hv270_1:=hcc270 1 _ rfl;rw [add_field _ _ 1 (by omega)]at hv270_1;replace hv270_1:=Option.some.inj (hv270_1.symm.trans hx270_1);injection hv270_1 with hva_ hvn_ hvc_;rw [hva_]at ge270_1;rw [hvc_]at ul270_1;have HL270_1:=am_ (show Kd.V k52 52 _ w.heap.size _ _ ((rd_T80 l0_5 x5_1).f1)from Kd.V_mk ul270_1 ge270_1);clear hva_ hvn_ hvc_ ge270_1 ul270_1 hcc270 hce270;have HR270_1:=am_ hi270_1;have HC270_1:=am_ hl270_1;clear hi270_1 hl270_1;replace p270:=eq_true p270;replace q270:=eq_true q270;have p271:0≤(x5_1:Int):=od_;have q271:x5_1 < (l0_5.length:Int):=od_;obtain⟨ad271,A271_1,c271_1,e271,hx271_0,hx271_1,hl271_1,hi271_1⟩:=at_T80 (Kd.V_reads' HO_270005.out).2.2 x5_1 p271 q271;obtain rfl:ad270=ad271:=(by injection e271);obtain⟨ce271,hce271,hMe271,hcc271⟩:=Kd.V_get HO_270005.out z80 x5_1 p271 (by first|exact q271|exact od_|(have e_:=(Kd.V_reads' HO_270005.out).1;omega));obtain⟨ua271_1,uc271_1,rfl,ul271_1,ge271_1⟩:=k80_openF hMe271;have hv271_1:=hcc271 1 _ rfl;rw [add_field _ _ 1 (by omega)]at hv271_1;replace hv271_1:=Option.some.inj (hv271_1.symm.trans hx271_1);injection hv271_1 with hva_ hvn_ hvc_;rw [hva_]at ge271_1;rw [hvc_]at ul271_1;have HL271_1:=am_ (show Kd.V k52 52 _ w.heap.size _ _ ((rd_T80 l0_5 x5_1).f1)from Kd.V_mk ul271_1 ge271_1);clear hva_ hvn_ hvc_ ge271_1 ul271_1 hcc271 hce271;have HR271_1:=am_ hi271_1;have HC271_1:=am_ hl271_1;clear hi271_1 hl271_1;replace p271:=eq_true p271;replace q271:=eq_true q271;have ea_:=Option.some.inj (hx270_1.symm.trans hx271_1);injection ea_ with ea_ en_ ec_;subst ea_;subst ec_;clear en_;go_wp2;go_ret;exact⟨_,er_,by(with_reducible repeat (first|apply Kd.V_alloc|apply Kd.V_drewN|apply Kd.V_drew));exact Kd.V_mono HL271_1.out (fun _ hk=>by first|exact hk.1|grind),bf_ HB⟩
     ·rw [if_neg c6]at H;have c6b0:(((rd_T80 l0_5 x5_1).f0) == a1)=false:=beq_eq_false_iff_ne.mpr c6;have c6b1:(((rd_T80 l0_5 x5_1).f0) != a1)=true:=bne_iff_ne.mpr c6;have H':=am_ H;clear H;obtain⟨Z8_0,Z8_1,Z8_2,Z8_3,Z8_4,Z8_5,F8_0,F8_1,F8_2,F8_3,F8_4,F8_5⟩:=bz6_ B269;have p270:0≤(x5_1:Int):=od_;have q270:x5_1 < (l0_5.length:Int):=od_;obtain⟨ad270,A270_1,c270_1,e270,hx270_0,hx270_1,hl270_1,hi270_1⟩:=at_T80 (Kd.V_reads' HO_270005.out).2.2 x5_1 p270 q270;cases e270;obtain⟨ce270,hce270,hMe270,hcc270⟩:=Kd.V_get HO_270005.out z80 x5_1 p270 (by first|exact q270|exact od_|(have e_:=(Kd.V_reads' HO_270005.out).1;omega));obtain⟨ua270_1,uc270_1,rfl,ul270_1,ge270_1⟩:=k80_openF hMe270;have hv270_1:=hcc270 1 _ rfl;rw [add_field _ _ 1 (by omega)]at hv270_1;replace hv270_1:=Option.some.inj (hv270_1.symm.trans hx270_1);injection hv270_1 with hva_ hvn_ hvc_;rw [hva_]at ge270_1;rw [hvc_]at ul270_1;have HL270_1:=am_ (show Kd.V k52 52 _ w.heap.size _ _ ((rd_T80 l0_5 x5_1).f1)from Kd.V_mk ul270_1 ge270_1);clear hva_ hvn_ hvc_ ge270_1 ul270_1 hcc270 hce270;have HR270_1:=am_ hi270_1;have HC270_1:=am_ hl270_1;clear hi270_1 hl270_1;replace p270:=eq_true p270;replace q270:=eq_true q270;go_wp2
      go_roundg k1
      case measure=>have:=HK1.out;omega
      case rel=>exact⟨(wrap64 (x5_1+1)),re_,H',⟨by have:=HK1.out;omega⟩,⟨by(with_reducible repeat (first|apply Kd.V_alloc|apply Kd.V_drewN|apply Kd.V_drew));exact HO_270005.out⟩,⟨bk_ B269⟩,⟨bf_ HB⟩⟩
    ·rw [if_neg c5]at H;exact absurd H (by simp)
   ·rw [if_neg c4]at H;have c4b0:decide (x5_1 < (l0_5.length:Int))=false:=decide_eq_false c4;clear c4;obtain rfl:=Option.some.inj H;obtain⟨Z9_0,Z9_1,Z9_2,Z9_3,Z9_4,Z9_5,F9_0,F9_1,F9_2,F9_3,F9_4,F9_5⟩:=bz6_ B269;go_wp2;go_ret;exact⟨.slice none 0 0,er_,Kd.V_nil _ _ _ _ _,bf_ HB⟩

end Go.Proofs.Ytnklakficjpmoaa.PFnExactBufClear
