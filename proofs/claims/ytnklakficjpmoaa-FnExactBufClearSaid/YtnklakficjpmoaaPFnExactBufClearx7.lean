-- printed by a program of this session (wip/printx) out of the translation; Lean checks it
import Derived.Test.YtnklakficjpmoaaVFnExactBufClear
import Derived.Test.YtnklakficjpmoaaPFnExactBufClearx0
namespace Go.Proofs.Ytnklakficjpmoaa.PFnExactBufClear
open Go.RowKit Go.Proofs.YtnklakficjpmoaaW.PrintWords Go.Proofs.YtnklakficjpmoaaW.PrintLast Go.Proofs.YtnklakficjpmoaaW.PrintMore
attribute [local go_sem] max2_int min2_int max_two min_two max_three min_three max_four min_four   -- for this text's walks alone
set_option linter.unusedVariables false
set_option linter.unusedSimpArgs false

/-! ### spec_l17Id: function 72 -/
def spec_l17Id.l0:Nat→List (S52)→Int→Int→Option (Bool)
  | 0,_,_,_=>none
  | k+1,x0,x1,x5=>if x5 < (x0.length:Int) then(if 0≤x5 then(if ((rd_T52 x0 x5).f0)=x1 then(some true) else(spec_l17Id.l0 k x0 x1 (wrap64 (x5+1)))) else(none)) else(some false)
def spec_l17Id.f (k:Nat) (l0:List (S52)) (a1:Int):Option (Bool):=spec_l17Id.l0 k l0 a1 0
theorem spec_l17Id.mono_l:∀ k,(∀ y0 y1 y2,LeO (spec_l17Id.l0 k y0 y1 y2) (spec_l17Id.l0 (k+1) y0 y1 y2))
 | 0=>fun _ _ _ r h=>by simp [spec_l17Id.l0]at h
 | k+1=>by
  have ih0:=spec_l17Id.mono_l k
  ·intro y0 y1 y2;unfold spec_l17Id.l0
   repeat' (first|(with_reducible exact ih0 ..)|(with_reducible exact LeO.refl _)|(with_reducible exact LeO.none _)|(with_reducible refine LeO.ite ?_ ?_)|(with_reducible refine LeO.bind ?_ (fun _=>?_))|exact ih0 ..|exact LeO.none _|refine LeO.ite ?_ ?_|refine LeO.bind ?_ (fun _=>?_))
theorem spec_l17Id.mono:∀ a0 a1 k,LeO (spec_l17Id.f k a0 a1) (spec_l17Id.f (k+1) a0 a1):=by
 intro a0 a1 k;have ih0:=spec_l17Id.mono_l k;unfold spec_l17Id.f
 repeat' (first|(with_reducible exact ih0 ..)|(with_reducible exact LeO.refl _)|(with_reducible exact LeO.none _)|(with_reducible refine LeO.ite ?_ ?_)|(with_reducible refine LeO.bind ?_ (fun _=>?_))|exact ih0 ..|exact LeO.none _|refine LeO.ite ?_ ?_|refine LeO.bind ?_ (fun _=>?_))
set_option maxHeartbeats 80000000 in
set_option maxRecDepth 100000 in
theorem spec_l17Id.calls (k:Nat) (A0:Option Addr) (c0:Nat) (l0:List (S52)) (a1:Int) (r:Bool) (w:World) (hr0:Kd.C k52 w A0 l0.length l0) (hc0:l0.length≤c0) (h:spec_l17Id.f k l0 a1=some r) :
  Calls Try.prog 72 #[.slice A0 l0.length c0,.int .i64 a1] w fun e w'=>e=.returned (.bool r)∧Drawn0 w w':=by
 have HR0:=am_ hr0;have HC0:=am_ hc0;clear hr0 hc0;have H:=h;clear h;unfold spec_l17Id.f at H;have H':=am_ H;clear H
 go_enter Try.func72,Try.ntmps72
 go_wp2
 go_loopg [5] k (fun kq v5 w'=>∃ (x5_1:Int),v5=.int .i64 x5_1∧Aside0 (spec_l17Id.l0 kq l0 a1 x5_1=some r)∧Aside0 (kq≤k)∧Drawn0 w w')
 case atStart=>exact⟨(0),re_,H',⟨Nat.le_refl _⟩,by repeat (first|exact Drawn0.refl _|apply Drawn0.step)⟩
 case round =>
  clear H';obtain⟨x5_1,rfl,HA,HK1,⟨m1,rfl⟩⟩:=hrel
  cases gk with
  | zero=>exact absurd HA.out (by simp [spec_l17Id.l0])
  | succ k1 =>
   have H:=HA.out;clear HA;simp only [spec_l17Id.l0]at H
   by_cases c3:x5_1 < (l0.length:Int)
   ·rw [if_pos c3]at H;have c3b0:decide (x5_1 < (l0.length:Int))=true:=decide_eq_true c3;clear c3
    by_cases c4:0≤x5_1
    ·rw [if_pos c4]at H;have c4b0:decide (0≤x5_1)=true:=decide_eq_true c4;clear c4
     by_cases c5:((rd_T52 l0 x5_1).f0)=a1
     ·rw [if_pos c5]at H;have c5b0:(((rd_T52 l0 x5_1).f0) == a1)=true:=beq_iff_eq.mpr c5;have c5b1:(((rd_T52 l0 x5_1).f0) != a1)=false:=bne_eq_false_iff_eq.mpr c5;clear c5;obtain rfl:=Option.some.inj H;have p240:0≤(x5_1:Int):=od_;have q240:x5_1 < (l0.length:Int):=od_;obtain⟨ad240,e240,hx240_0,hx240_1⟩:=at_T52 HR0.out x5_1 p240 q240;cases e240;replace p240:=eq_true p240;replace q240:=eq_true q240;go_wp2;go_ret;exact⟨by first|rfl|(simp;done)|(simp [*];done),by repeat (first|exact Drawn0.refl _|apply Drawn0.step)⟩
     ·rw [if_neg c5]at H;have c5b0:(((rd_T52 l0 x5_1).f0) == a1)=false:=beq_eq_false_iff_ne.mpr c5;have c5b1:(((rd_T52 l0 x5_1).f0) != a1)=true:=bne_iff_ne.mpr c5;have H':=am_ H;clear H;have p240:0≤(x5_1:Int):=od_;have q240:x5_1 < (l0.length:Int):=od_;obtain⟨ad240,e240,hx240_0,hx240_1⟩:=at_T52 HR0.out x5_1 p240 q240;cases e240;replace p240:=eq_true p240;replace q240:=eq_true q240;go_wp2
      go_roundg k1
      case measure=>have:=HK1.out;omega
      case rel=>exact⟨(wrap64 (x5_1+1)),re_,H',⟨by have:=HK1.out;omega⟩,by repeat (first|exact Drawn0.refl _|apply Drawn0.step)⟩
    ·rw [if_neg c4]at H;exact absurd H (by simp)
   ·rw [if_neg c3]at H;have c3b0:decide (x5_1 < (l0.length:Int))=false:=decide_eq_false c3;clear c3;obtain rfl:=Option.some.inj H;go_wp2;go_ret;exact⟨by first|rfl|(simp;done)|(simp [*];done),by repeat (first|exact Drawn0.refl _|apply Drawn0.step)⟩

/-! ### spec_l17All: function 73 -/
def spec_l17All.l0:Nat→List (S52)→Int→Int→Int→Int→Int→Bool→List (S80)→Option ((List (S52)))
  | 0,_,_,_,_,_,_,_,_=>none
  | k+1,x3,x4,x242000,x242001,x242002,x242003,x242004,x242005=>if x4 < (x242005.length:Int) then(if 0≤x4 then(if x3.length+((rd_T80 x242005 x4).f1).length < 8796093022208 then(spec_l17All.l0 k (x3 ++ ((rd_T80 x242005 x4).f1)) (wrap64 (x4+1)) x242000 x242001 x242002 x242003 x242004 x242005) else(none)) else(none)) else(some x3)
def spec_l17All.f (k:Nat) (a0_0:Int) (a0_1:Int) (a0_2:Int) (a0_3:Int) (a0_4:Bool) (l0_5:List (S80)):Option ((List (S52))):=spec_l17All.l0 k (([]:List (S52))) 0 a0_0 a0_1 a0_2 a0_3 a0_4 l0_5
theorem spec_l17All.mono_l:∀ k,(∀ y0 y1 y2 y3 y4 y5 y6 y7,LeO (spec_l17All.l0 k y0 y1 y2 y3 y4 y5 y6 y7) (spec_l17All.l0 (k+1) y0 y1 y2 y3 y4 y5 y6 y7))
 | 0=>fun _ _ _ _ _ _ _ _ r h=>by simp [spec_l17All.l0]at h
 | k+1=>by
  have ih0:=spec_l17All.mono_l k
  ·intro y0 y1 y2 y3 y4 y5 y6 y7;unfold spec_l17All.l0
   repeat' (first|(with_reducible exact ih0 ..)|(with_reducible exact LeO.refl _)|(with_reducible exact LeO.none _)|(with_reducible refine LeO.ite ?_ ?_)|(with_reducible refine LeO.bind ?_ (fun _=>?_))|exact ih0 ..|exact LeO.none _|refine LeO.ite ?_ ?_|refine LeO.bind ?_ (fun _=>?_))
theorem spec_l17All.mono:∀ a0 a1 a2 a3 a4 a5 k,LeO (spec_l17All.f k a0 a1 a2 a3 a4 a5) (spec_l17All.f (k+1) a0 a1 a2 a3 a4 a5):=by
 intro a0 a1 a2 a3 a4 a5 k;have ih0:=spec_l17All.mono_l k;unfold spec_l17All.f
 repeat' (first|(with_reducible exact ih0 ..)|(with_reducible exact LeO.refl _)|(with_reducible exact LeO.none _)|(with_reducible refine LeO.ite ?_ ?_)|(with_reducible refine LeO.bind ?_ (fun _=>?_))|exact ih0 ..|exact LeO.none _|refine LeO.ite ?_ ?_|refine LeO.bind ?_ (fun _=>?_))
set_option maxHeartbeats 80000000 in
set_option maxRecDepth 100000 in
theorem spec_l17All.calls (k:Nat) (a0_0:Int) (a0_1:Int) (a0_2:Int) (a0_3:Int) (a0_4:Bool) (A0_5:Option Addr) (c0_5:Nat) (l0_5:List (S80)) (r:List (S52)) (w:World) (hr0_5:Kd.C k80 w A0_5 l0_5.length l0_5) (hc0_5:l0_5.length≤c0_5) (h:spec_l17All.f k a0_0 a0_1 a0_2 a0_3 a0_4 l0_5=some r) :
  Calls Try.prog 73 #[.agg #[.int .i64 a0_0,.int .i64 a0_1,.int .i64 a0_2,.int .i64 a0_3,.bool a0_4,.slice A0_5 l0_5.length c0_5]] w fun e w'=>∃ v0_:Value,e=.returned (v0_)∧Kd.R k52 52 w' w.heap.size (fun _=>True) v0_ r∧Below w.heap.size w w':=by
 have hu47:=Try.underlying47;have HR0_5:=am_ hr0_5;have HC0_5:=am_ hc0_5;clear hr0_5 hc0_5;have HB:=am_ (Below.refl w.heap.size w);have H:=h;clear h;unfold spec_l17All.f at H;obtain⟨y242,hy242⟩:∃ y_:List (S52),y_=(([]:List (S52))):=⟨_,rfl⟩;replace H:(spec_l17All.l0 k y242 0 a0_0 a0_1 a0_2 a0_3 a0_4 l0_5)=some r:=(by first|(rw [hy242];with_reducible exact H)|(have H2_:=(Option.bind_some _ _).symm.trans H;rw [hy242];with_reducible exact H2_)|(have H2_:=(Option.bind_some _ _).symm.trans H;with_reducible exact H2_)|with_reducible exact H|(rw [hy242];exact H)|exact H);have Ny242:=am_ hy242;clear hy242;have H':=am_ H;clear H
 go_enter Try.func73,Try.ntmps73
 go_wp2_with (first|((with_reducible refine gd_ 1 rfl ?_);refine bv_ 1 #[.int .i64 a0_0,.int .i64 a0_1,.int .i64 a0_2,.int .i64 a0_3,.bool a0_4,.slice A0_5 l0_5.length c0_5] 47 ?_;intro gb241 hg w2 hbox hb;have B241:=am_ (hbox);have GW241:=gw_ HB hg;have GE241:=gw_ HB hg;replace HB:=am_ (below_step (be_ HB) hb);clear hb hbox hg)|((with_reducible refine gd_ 5 rfl ?_);refine Kd.R_lit k52 _ 52 ?hg (N:=5) ?hd (xs:=([]:List (S52))) (inner:=[]) (ok:=fun _=>True) (okp:=fun _=>True) ?hr ?hp (fun _ hk=>by first|exact hk|grind) trivial (Below.refl _ _) (Nat.le_refl _) (by simp) ?_;(case hd=>rfl);(case hg=>rfl);(case hr=>first|(go_simp;done)|(go_simp;rfl));(case hp=>exact(Reps.none _ _));intro v243 w3 ho4 hb hg_ hnew_;clear hg_ hnew_;(first|rw [← Ny242.out]at ho4|(simp only [Int.reduceToNat]at ho4;rw [← Ny242.out]at ho4));have HO244:=am_ (Kd.R_lower ho4 (below_size (bf_ HB)));replace B241:=bb_ B241 hb;replace HB:=sb_ HB hb;clear hb ho4))
 go_loopg [3,4] k (fun kq v3 v4 w'=>∃ (x3_1:List (S52)) (x4_1:Int),v4=.int .i64 x4_1∧Aside0 (spec_l17All.l0 kq x3_1 x4_1 a0_0 a0_1 a0_2 a0_3 a0_4 l0_5=some r)∧Aside0 (kq≤k)∧Aside0 (Kd.R k52 52 w' w.heap.size (fun _=>True) v3 x3_1)∧Aside0 (w'.heap[gb241]?=some (.cells #[.int .i64 a0_0,.int .i64 a0_1,.int .i64 a0_2,.int .i64 a0_3,.bool a0_4,(.slice A0_5 l0_5.length c0_5)] 47 (0,0)))∧Aside0 (Below w.heap.size w w'))
 case atStart=>exact⟨(y242),(0),re_,H',⟨Nat.le_refl _⟩,⟨kr_ HO244⟩,⟨bk_ B241⟩,⟨bf_ HB⟩⟩
 case round =>
  clear H';obtain⟨x3_1,x4_1,rfl,HA,HK1,HO_3,B241,HB⟩:=hrel
  cases gk with
  | zero=>exact absurd HA.out (by simp [spec_l17All.l0])
  | succ k1 =>
   have H:=HA.out;clear HA;simp only [spec_l17All.l0]at H
   by_cases c5:x4_1 < (l0_5.length:Int)
   ·rw [if_pos c5]at H;have c5b0:decide (x4_1 < (l0_5.length:Int))=true:=decide_eq_true c5;clear c5
    by_cases c6:0≤x4_1
    ·rw [if_pos c6]at H;have c6b0:decide (0≤x4_1)=true:=decide_eq_true c6;clear c6
     by_cases c7:x3_1.length+((rd_T80 l0_5 x4_1).f1).length < 8796093022208
     ·rw [if_pos c7]at H;have LMc7:=am_ c7;clear c7;obtain⟨y246,hy246⟩:∃ y_:List (S52),y_=(x3_1 ++ ((rd_T80 l0_5 x4_1).f1)):=⟨_,rfl⟩;replace H:(spec_l17All.l0 k1 y246 (wrap64 (x4_1+1)) a0_0 a0_1 a0_2 a0_3 a0_4 l0_5)=some r:=(by first|(rw [hy246];with_reducible exact H)|(have H2_:=(Option.bind_some _ _).symm.trans H;rw [hy246];with_reducible exact H2_)|(have H2_:=(Option.bind_some _ _).symm.trans H;with_reducible exact H2_)|with_reducible exact H|(rw [hy246];exact H)|exact H);have Ny246:=am_ hy246;clear hy246;have H':=am_ H;clear H;obtain⟨Z8_0,Z8_1,Z8_2,Z8_3,Z8_4,Z8_5,F8_0,F8_1,F8_2,F8_3,F8_4,F8_5⟩:=bz6_ B241;have p245:0≤(x4_1:Int):=od_;have q245:x4_1 < (l0_5.length:Int):=od_;obtain⟨ad245,A245_1,c245_1,e245,hx245_0,hx245_1,hl245_1,hi245_1⟩:=at_T80 HR0_5.out x4_1 p245 q245;cases e245;replace hx245_0:=hb_ HB hx245_0;replace hx245_1:=hb_ HB hx245_1;have HR245_1:=am_ hi245_1;have HC245_1:=am_ hl245_1;clear hi245_1 hl245_1;replace p245:=eq_true p245;replace q245:=eq_true q245;go_wp2_with (first|((with_reducible refine gate_builtin (b:=.append) (xs:=#[.tmp 13,.tmp 19]) rfl ?_);at_builtin;refine Kd.R_append_rows k52 (w0:=w) w.heap.size rfl (.tmp 13) (.tmp 19) 78 52 (.agg #[(.int .i64 0),(.int .i64 0)]) 16 rfl Try.underlying78 info52 rfl (by decide) (by omega) u3 x3_1 ((rd_T80 l0_5 x4_1).f1) _ _ _ (fun _=>True) (fun _=>False) rfl rfl ?aO ?aR (fun _ _ h=>h) (fun _ h=>h.elim) ?aF ?aB ?aS ?aL ?_;(case aR=>repeat (first|exact(Kd.C_below HR245_1.out HB.out)|(with_reducible refine Kd.C_alloc ?_ _)|(with_reducible refine Kd.C_drewN ?_ _)|(with_reducible refine Kd.C_drew ?_)));(case aB=>exact(bf_ HB));(case aF=>exact(fun _ _=>trivial));(case aO=>exact(kr_ HO_3));(case aS=>exact(below_size (bf_ HB)));(case aL=>have:=LMc7.out;omega);intro v247 w9 ho hb hg hat;rw [← Ny246.out]at ho;replace B241:=am_ (blk_grown (g:=gb241) (o:=.cells #[.int .i64 a0_0,.int .i64 a0_1,.int .i64 a0_2,.int .i64 a0_3,.bool a0_4,.slice (some ad245) l0_5.length c0_5] 47 (0,0)) (bk_ B241) hg (Kd.R_ne HO_3.out B241.out (by decide)));replace HB:=am_ (hb);have HO248:=am_ (ho);clear HO_3 ho hb hg hat))
      go_roundg k1
      case measure=>have:=HK1.out;omega
      case rel=>exact⟨(y246),(wrap64 (x4_1+1)),re_,H',⟨by have:=HK1.out;omega⟩,⟨kr_ HO248⟩,⟨bk_ B241⟩,⟨bf_ HB⟩⟩
     ·rw [if_neg c7]at H;exact absurd H (by simp)
    ·rw [if_neg c6]at H;exact absurd H (by simp)
   ·rw [if_neg c5]at H;have c5b0:decide (x4_1 < (l0_5.length:Int))=false:=decide_eq_false c5;clear c5;obtain rfl:=Option.some.inj H;obtain⟨Z10_0,Z10_1,Z10_2,Z10_3,Z10_4,Z10_5,F10_0,F10_1,F10_2,F10_3,F10_4,F10_5⟩:=bz6_ B241;go_wp2;go_ret;exact⟨_,er_,by(with_reducible repeat (first|apply Kd.R_alloc|apply Kd.R_drewN|apply Kd.R_drew));exact HO_3.out,bf_ HB⟩

/-! ### spec_l17Bytes: function 75 -/
def spec_l17Bytes.l0:Nat→List (S52)→Int→Int→Option (Int)
  | 0,_,_,_=>none
  | k+1,x0,x3,x4=>if x4 < (x0.length:Int) then(if 0≤x4 then(spec_l17Bytes.l0 k x0 (wrap64 (x3+((rd_T52 x0 x4).f1))) (wrap64 (x4+1))) else(none)) else(some x3)
def spec_l17Bytes.f (k:Nat) (l0:List (S52)):Option (Int):=spec_l17Bytes.l0 k l0 0 0
theorem spec_l17Bytes.mono_l:∀ k,(∀ y0 y1 y2,LeO (spec_l17Bytes.l0 k y0 y1 y2) (spec_l17Bytes.l0 (k+1) y0 y1 y2))
 | 0=>fun _ _ _ r h=>by simp [spec_l17Bytes.l0]at h
 | k+1=>by
  have ih0:=spec_l17Bytes.mono_l k
  ·intro y0 y1 y2;unfold spec_l17Bytes.l0
   repeat' (first|(with_reducible exact ih0 ..)|(with_reducible exact LeO.refl _)|(with_reducible exact LeO.none _)|(with_reducible refine LeO.ite ?_ ?_)|(with_reducible refine LeO.bind ?_ (fun _=>?_))|exact ih0 ..|exact LeO.none _|refine LeO.ite ?_ ?_|refine LeO.bind ?_ (fun _=>?_))
theorem spec_l17Bytes.mono:∀ a0 k,LeO (spec_l17Bytes.f k a0) (spec_l17Bytes.f (k+1) a0):=by
 intro a0 k;have ih0:=spec_l17Bytes.mono_l k;unfold spec_l17Bytes.f
 repeat' (first|(with_reducible exact ih0 ..)|(with_reducible exact LeO.refl _)|(with_reducible exact LeO.none _)|(with_reducible refine LeO.ite ?_ ?_)|(with_reducible refine LeO.bind ?_ (fun _=>?_))|exact ih0 ..|exact LeO.none _|refine LeO.ite ?_ ?_|refine LeO.bind ?_ (fun _=>?_))
set_option maxHeartbeats 80000000 in
set_option maxRecDepth 100000 in
theorem spec_l17Bytes.calls (k:Nat) (A0:Option Addr) (c0:Nat) (l0:List (S52)) (r:Int) (w:World) (hr0:Kd.C k52 w A0 l0.length l0) (hc0:l0.length≤c0) (h:spec_l17Bytes.f k l0=some r) :
  Calls Try.prog 75 #[.slice A0 l0.length c0] w fun e w'=>e=.returned (.int .i64 r)∧Drawn0 w w':=by
 have HR0:=am_ hr0;have HC0:=am_ hc0;clear hr0 hc0;have H:=h;clear h;unfold spec_l17Bytes.f at H;have H':=am_ H;clear H
 go_enter Try.func75,Try.ntmps75
 go_wp2
 go_loopg [3,4] k (fun kq v3 v4 w'=>∃ (x3_1:Int) (x4_1:Int),v3=.int .i64 x3_1∧v4=.int .i64 x4_1∧Aside0 (spec_l17Bytes.l0 kq l0 x3_1 x4_1=some r)∧Aside0 (kq≤k)∧Drawn0 w w')
 case atStart=>exact⟨(0),(0),re_,re_,H',⟨Nat.le_refl _⟩,by repeat (first|exact Drawn0.refl _|apply Drawn0.step)⟩
 case round =>
  clear H';obtain⟨x3_1,x4_1,rfl,rfl,HA,HK1,⟨m1,rfl⟩⟩:=hrel
  cases gk with
  | zero=>exact absurd HA.out (by simp [spec_l17Bytes.l0])
  | succ k1 =>
   have H:=HA.out;clear HA;simp only [spec_l17Bytes.l0]at H
   by_cases c2:x4_1 < (l0.length:Int)
   ·rw [if_pos c2]at H;have c2b0:decide (x4_1 < (l0.length:Int))=true:=decide_eq_true c2;clear c2
    by_cases c3:0≤x4_1
    ·rw [if_pos c3]at H;have c3b0:decide (0≤x4_1)=true:=decide_eq_true c3;clear c3;have H':=am_ H;clear H;have p249:0≤(x4_1:Int):=od_;have q249:x4_1 < (l0.length:Int):=od_;obtain⟨ad249,e249,hx249_0,hx249_1⟩:=at_T52 HR0.out x4_1 p249 q249;cases e249;replace p249:=eq_true p249;replace q249:=eq_true q249;go_wp2
     go_roundg k1
     case measure=>have:=HK1.out;omega
     case rel=>exact⟨(wrap64 (x3_1+((rd_T52 l0 x4_1).f1))),(wrap64 (x4_1+1)),re_,re_,H',⟨by have:=HK1.out;omega⟩,by repeat (first|exact Drawn0.refl _|apply Drawn0.step)⟩
    ·rw [if_neg c3]at H;exact absurd H (by simp)
   ·rw [if_neg c2]at H;have c2b0:decide (x4_1 < (l0.length:Int))=false:=decide_eq_false c2;clear c2;obtain rfl:=Option.some.inj H;go_wp2;go_ret;exact⟨by first|rfl|(simp;done)|(simp [*];done),by repeat (first|exact Drawn0.refl _|apply Drawn0.step)⟩

/-! ### spec_LimitsOk: function 104 -/
def spec_LimitsOk.f (a0_0:Int) (a0_1:Int) (a0_2:Int) (a0_3:Int) (a0_4:Bool):Option (Bool):=if a0_0 < 1 then(some false) else(if a0_0 > 64 then(some false) else(if a0_1 < 1 then(some false) else(if a0_1 > 100000 then(some false) else(if a0_2 ≥ 1 then(if a0_2≤1000000 then(if a0_3 ≥ 0 then(some (decide (a0_3≤100000))) else(some false)) else(some false)) else(some false)))))
set_option maxHeartbeats 80000000 in
set_option maxRecDepth 100000 in
theorem spec_LimitsOk.calls (a0_0:Int) (a0_1:Int) (a0_2:Int) (a0_3:Int) (a0_4:Bool) (r:Bool) (w:World) (h:spec_LimitsOk.f a0_0 a0_1 a0_2 a0_3 a0_4=some r) :
  Calls Try.prog 104 #[.agg #[.int .i64 a0_0,.int .i64 a0_1,.int .i64 a0_2,.int .i64 a0_3,.bool a0_4]] w fun e w'=>e=.returned (.bool r)∧Below w.heap.size w w':=by
 have hu44:=Try.underlying44;have HB:=am_ (Below.refl w.heap.size w);have H:=h;clear h;unfold spec_LimitsOk.f at H
 by_cases c2:a0_0 < 1
 ·rw [if_pos c2]at H;have c2b0:decide (a0_0 < 1)=true:=decide_eq_true c2;clear c2;obtain rfl:=Option.some.inj H
  go_enter Try.func104,Try.ntmps104
  go_wp2_with (first|((with_reducible refine gd_ 1 rfl ?_);refine bv_ 1 #[.int .i64 a0_0,.int .i64 a0_1,.int .i64 a0_2,.int .i64 a0_3,.bool a0_4] 44 ?_;intro gb250 hg w3 hbox hb;have B250:=am_ (hbox);have GW250:=gw_ HB hg;have GE250:=gw_ HB hg;replace HB:=am_ (below_step (be_ HB) hb);clear hb hbox hg;obtain⟨Z4_0,Z4_1,Z4_2,Z4_3,Z4_4,F4_0,F4_1,F4_2,F4_3,F4_4⟩:=bz5_ B250));go_ret;exact⟨er_,bf_ HB⟩
 ·rw [if_neg c2]at H;have c2b0:decide (a0_0 < 1)=false:=decide_eq_false c2;clear c2
  by_cases c5:a0_0 > 64
  ·rw [if_pos c5]at H;have c5b0:decide (64 < a0_0)=true:=decide_eq_true c5;clear c5;obtain rfl:=Option.some.inj H
   go_enter Try.func104,Try.ntmps104
   go_wp2_with (first|((with_reducible refine gd_ 1 rfl ?_);refine bv_ 1 #[.int .i64 a0_0,.int .i64 a0_1,.int .i64 a0_2,.int .i64 a0_3,.bool a0_4] 44 ?_;intro gb250 hg w6 hbox hb;have B250:=am_ (hbox);have GW250:=gw_ HB hg;have GE250:=gw_ HB hg;replace HB:=am_ (below_step (be_ HB) hb);clear hb hbox hg;obtain⟨Z7_0,Z7_1,Z7_2,Z7_3,Z7_4,F7_0,F7_1,F7_2,F7_3,F7_4⟩:=bz5_ B250));go_ret;exact⟨er_,bf_ HB⟩
  ·rw [if_neg c5]at H;have c5b0:decide (64 < a0_0)=false:=decide_eq_false c5;clear c5
   by_cases c8:a0_1 < 1
   ·rw [if_pos c8]at H;have c8b0:decide (a0_1 < 1)=true:=decide_eq_true c8;clear c8;obtain rfl:=Option.some.inj H
    go_enter Try.func104,Try.ntmps104
    go_wp2_with (first|((with_reducible refine gd_ 1 rfl ?_);refine bv_ 1 #[.int .i64 a0_0,.int .i64 a0_1,.int .i64 a0_2,.int .i64 a0_3,.bool a0_4] 44 ?_;intro gb250 hg w9 hbox hb;have B250:=am_ (hbox);have GW250:=gw_ HB hg;have GE250:=gw_ HB hg;replace HB:=am_ (below_step (be_ HB) hb);clear hb hbox hg;obtain⟨Z10_0,Z10_1,Z10_2,Z10_3,Z10_4,F10_0,F10_1,F10_2,F10_3,F10_4⟩:=bz5_ B250));go_ret;exact⟨er_,bf_ HB⟩
   ·rw [if_neg c8]at H;have c8b0:decide (a0_1 < 1)=false:=decide_eq_false c8;clear c8
    by_cases c11:a0_1 > 100000
    ·rw [if_pos c11]at H;have c11b0:decide (100000 < a0_1)=true:=decide_eq_true c11;clear c11;obtain rfl:=Option.some.inj H
     go_enter Try.func104,Try.ntmps104
     go_wp2_with (first|((with_reducible refine gd_ 1 rfl ?_);refine bv_ 1 #[.int .i64 a0_0,.int .i64 a0_1,.int .i64 a0_2,.int .i64 a0_3,.bool a0_4] 44 ?_;intro gb250 hg w12 hbox hb;have B250:=am_ (hbox);have GW250:=gw_ HB hg;have GE250:=gw_ HB hg;replace HB:=am_ (below_step (be_ HB) hb);clear hb hbox hg;obtain⟨Z13_0,Z13_1,Z13_2,Z13_3,Z13_4,F13_0,F13_1,F13_2,F13_3,F13_4⟩:=bz5_ B250));go_ret;exact⟨er_,bf_ HB⟩
    ·rw [if_neg c11]at H;have c11b0:decide (100000 < a0_1)=false:=decide_eq_false c11;clear c11
     by_cases c14:a0_2 ≥ 1
     ·rw [if_pos c14]at H;have c14b0:decide (1≤a0_2)=true:=decide_eq_true c14;clear c14
      by_cases c15:a0_2≤1000000
      ·rw [if_pos c15]at H;have c15b0:decide (a0_2≤1000000)=true:=decide_eq_true c15;clear c15
       by_cases c16:a0_3 ≥ 0
       ·rw [if_pos c16]at H;have c16b0:decide (0≤a0_3)=true:=decide_eq_true c16;clear c16;obtain rfl:=Option.some.inj H
        go_enter Try.func104,Try.ntmps104
        go_wp2_with (first|((with_reducible refine gd_ 1 rfl ?_);refine bv_ 1 #[.int .i64 a0_0,.int .i64 a0_1,.int .i64 a0_2,.int .i64 a0_3,.bool a0_4] 44 ?_;intro gb250 hg w17 hbox hb;have B250:=am_ (hbox);have GW250:=gw_ HB hg;have GE250:=gw_ HB hg;replace HB:=am_ (below_step (be_ HB) hb);clear hb hbox hg;obtain⟨Z18_0,Z18_1,Z18_2,Z18_3,Z18_4,F18_0,F18_1,F18_2,F18_3,F18_4⟩:=bz5_ B250));go_ret;exact⟨er_,bf_ HB⟩
       ·rw [if_neg c16]at H;have c16b0:decide (0≤a0_3)=false:=decide_eq_false c16;clear c16;obtain rfl:=Option.some.inj H
        go_enter Try.func104,Try.ntmps104
        go_wp2_with (first|((with_reducible refine gd_ 1 rfl ?_);refine bv_ 1 #[.int .i64 a0_0,.int .i64 a0_1,.int .i64 a0_2,.int .i64 a0_3,.bool a0_4] 44 ?_;intro gb250 hg w19 hbox hb;have B250:=am_ (hbox);have GW250:=gw_ HB hg;have GE250:=gw_ HB hg;replace HB:=am_ (below_step (be_ HB) hb);clear hb hbox hg;obtain⟨Z20_0,Z20_1,Z20_2,Z20_3,Z20_4,F20_0,F20_1,F20_2,F20_3,F20_4⟩:=bz5_ B250));go_ret;exact⟨er_,bf_ HB⟩
      ·rw [if_neg c15]at H;have c15b0:decide (a0_2≤1000000)=false:=decide_eq_false c15;clear c15;obtain rfl:=Option.some.inj H
       go_enter Try.func104,Try.ntmps104
       go_wp2_with (first|((with_reducible refine gd_ 1 rfl ?_);refine bv_ 1 #[.int .i64 a0_0,.int .i64 a0_1,.int .i64 a0_2,.int .i64 a0_3,.bool a0_4] 44 ?_;intro gb250 hg w21 hbox hb;have B250:=am_ (hbox);have GW250:=gw_ HB hg;have GE250:=gw_ HB hg;replace HB:=am_ (below_step (be_ HB) hb);clear hb hbox hg;obtain⟨Z22_0,Z22_1,Z22_2,Z22_3,Z22_4,F22_0,F22_1,F22_2,F22_3,F22_4⟩:=bz5_ B250));go_ret;exact⟨er_,bf_ HB⟩
     ·rw [if_neg c14]at H;have c14b0:decide (1≤a0_2)=false:=decide_eq_false c14;clear c14;obtain rfl:=Option.some.inj H
      go_enter Try.func104,Try.ntmps104
      go_wp2_with (first|((with_reducible refine gd_ 1 rfl ?_);refine bv_ 1 #[.int .i64 a0_0,.int .i64 a0_1,.int .i64 a0_2,.int .i64 a0_3,.bool a0_4] 44 ?_;intro gb250 hg w23 hbox hb;have B250:=am_ (hbox);have GW250:=gw_ HB hg;have GE250:=gw_ HB hg;replace HB:=am_ (below_step (be_ HB) hb);clear hb hbox hg;obtain⟨Z24_0,Z24_1,Z24_2,Z24_3,Z24_4,F24_0,F24_1,F24_2,F24_3,F24_4⟩:=bz5_ B250));go_ret;exact⟨er_,bf_ HB⟩

end Go.Proofs.Ytnklakficjpmoaa.PFnExactBufClear
