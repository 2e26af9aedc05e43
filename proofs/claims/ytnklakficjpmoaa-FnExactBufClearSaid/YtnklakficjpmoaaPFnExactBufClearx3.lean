-- printed by a program of this session (wip/printx) out of the translation; Lean checks it
import Derived.Test.YtnklakficjpmoaaVFnExactBufClear
import Derived.Test.YtnklakficjpmoaaPFnExactBufClearx0
namespace Go.Proofs.Ytnklakficjpmoaa.PFnExactBufClear
open Go.RowKit Go.Proofs.YtnklakficjpmoaaW.PrintWords Go.Proofs.YtnklakficjpmoaaW.PrintLast Go.Proofs.YtnklakficjpmoaaW.PrintMore
attribute [local go_sem] max2_int min2_int max_two min_two max_three min_three max_four min_four   -- for this text's walks alone
set_option linter.unusedVariables false
set_option linter.unusedSimpArgs false

/-! ### laws_markHeldS: function 129 -/
def laws_markHeldS.l0:Nat→List (S52)→Int→Int→Option (Int × (List (S52)))
  | 0,_,_,_=>none
  | k+1,x0,x1,x5=>if x5 < (x0.length:Int) then(if 0≤x5 then((some (x0.set (x5:Int).toNat (⟨x1,(rd_T52 x0 x5).f1⟩:S52):List (S52))).bind fun y165=>(laws_markHeldS.l0 k (y165.set (x5:Int).toNat (⟨(rd_T52 y165 x5).f0,wrap64 (x1+1)⟩:S52)) (wrap64 ((wrap64 (x1+1))+1)) (wrap64 (x5+1)))) else(none)) else(some (x1,x0))
def laws_markHeldS.f (k:Nat) (l0:List (S52)) (a1:Int):Option (Int × (List (S52))):=laws_markHeldS.l0 k l0 a1 0
theorem laws_markHeldS.mono_l:∀ k,(∀ y0 y1 y2,LeO (laws_markHeldS.l0 k y0 y1 y2) (laws_markHeldS.l0 (k+1) y0 y1 y2))
 | 0=>fun _ _ _ r h=>by simp [laws_markHeldS.l0]at h
 | k+1=>by
  have ih0:=laws_markHeldS.mono_l k
  ·intro y0 y1 y2;unfold laws_markHeldS.l0
   repeat' (first|(with_reducible exact ih0 ..)|(with_reducible exact LeO.refl _)|(with_reducible exact LeO.none _)|(with_reducible refine LeO.ite ?_ ?_)|(with_reducible refine LeO.bind ?_ (fun _=>?_))|exact ih0 ..|exact LeO.none _|refine LeO.ite ?_ ?_|refine LeO.bind ?_ (fun _=>?_))
theorem laws_markHeldS.mono:∀ a0 a1 k,LeO (laws_markHeldS.f k a0 a1) (laws_markHeldS.f (k+1) a0 a1):=by
 intro a0 a1 k;have ih0:=laws_markHeldS.mono_l k;unfold laws_markHeldS.f
 repeat' (first|(with_reducible exact ih0 ..)|(with_reducible exact LeO.refl _)|(with_reducible exact LeO.none _)|(with_reducible refine LeO.ite ?_ ?_)|(with_reducible refine LeO.bind ?_ (fun _=>?_))|exact ih0 ..|exact LeO.none _|refine LeO.ite ?_ ?_|refine LeO.bind ?_ (fun _=>?_))
set_option maxHeartbeats 80000000 in
set_option maxRecDepth 100000 in
theorem laws_markHeldS.calls (k:Nat) (P0_:Nat→Prop) (u9000_:Value) (l0:List (S52)) (a1:Int) (r1:Int) (r2:List (S52)) (w0 w:World) (hB:Below w0.heap.size w0 w) (ho0:Kd.R k52 52 w w0.heap.size P0_ u9000_ l0) (h:laws_markHeldS.f k l0 a1=some (r1,r2)) :
  Calls Try.prog 129 #[u9000_,.int .i64 a1] w fun e w'=>e=.returned (.int .i64 r1)∧Kd.R k52 52 w' w0.heap.size (fun k_=>(P0_ k_ ∨ w.heap.size≤k_)) u9000_ r2∧Below w0.heap.size w0 w'∧Kept w w' (fun k_=>P0_ k_):=by
 have HO0:=am_ (show Kd.R k52 52 w w0.heap.size (fun k_=>(P0_ k_ ∨ w.heap.size≤k_)) u9000_ l0 from Kd.R_mono ho0 (fun k_ hk=>by first|exact(.inl hk)|grind));have HK:=am_ (Kept.refl w (fun k_=>P0_ k_));have HW0:=am_ hB.size;have HB:=am_ hB;clear hB;have H:=h;clear h;unfold laws_markHeldS.f at H;have H':=am_ H;clear H
 go_enter Try.func129,Try.ntmps129
 go_wp2
 go_loopg [1,5] k (fun kq v1 v5 w'=>∃ (x0_1:List (S52)) (x1_1:Int) (x5_1:Int),v1=.int .i64 x1_1∧v5=.int .i64 x5_1∧Aside0 (laws_markHeldS.l0 kq x0_1 x1_1 x5_1=some (r1,r2))∧Aside0 (kq≤k)∧Aside0 (Kd.R k52 52 w' w0.heap.size (fun k_=>(P0_ k_ ∨ w.heap.size≤k_)) u9000_ x0_1)∧Aside0 (Kept w w' (fun k_=>P0_ k_))∧Aside0 (Below w0.heap.size w0 w'))
 case atStart=>exact⟨(l0),(a1),(0),re_,re_,H',⟨Nat.le_refl _⟩,⟨kr_ HO0⟩,⟨by repeat (first|(with_reducible first|exact HK.out|apply Kept.alloc|apply Kept.drewN|apply Kept.drew)|exact HK.out)⟩,⟨be_ HB⟩⟩
 case round =>
  clear H';obtain⟨x0_1,x1_1,x5_1,rfl,rfl,HA,HK1,HO_0,HK,HB⟩:=hrel
  cases gk with
  | zero=>exact absurd HA.out (by simp [laws_markHeldS.l0])
  | succ k1 =>
   have H:=HA.out;clear HA;simp only [laws_markHeldS.l0]at H
   by_cases c3:x5_1 < (x0_1.length:Int)
   ·rw [if_pos c3]at H;have c3b0:decide (x5_1 < (x0_1.length:Int))=true:=decide_eq_true c3;clear c3
    by_cases c4:0≤x5_1
    ·rw [if_pos c4]at H;have c4b0:decide (0≤x5_1)=true:=decide_eq_true c4;clear c4;obtain⟨y165,hy165⟩:∃ y_:List (S52),y_=(x0_1.set (x5_1:Int).toNat (⟨x1_1,(rd_T52 x0_1 x5_1).f1⟩:S52)):=⟨_,rfl⟩;replace H:(laws_markHeldS.l0 k1 (y165.set (x5_1:Int).toNat (⟨(rd_T52 y165 x5_1).f0,wrap64 (x1_1+1)⟩:S52)) (wrap64 ((wrap64 (x1_1+1))+1)) (wrap64 (x5_1+1)))=some (r1,r2):=(by first|(rw [hy165];with_reducible exact H)|(have H2_:=(Option.bind_some _ _).symm.trans H;rw [hy165];with_reducible exact H2_)|(have H2_:=(Option.bind_some _ _).symm.trans H;with_reducible exact H2_)|with_reducible exact H|(rw [hy165];exact H)|exact H);have Ny165:=am_ hy165;clear hy165;obtain⟨y166,hy166⟩:∃ y_:List (S52),y_=(y165.set (x5_1:Int).toNat (⟨(rd_T52 y165 x5_1).f0,wrap64 (x1_1+1)⟩:S52)):=⟨_,rfl⟩;replace H:(laws_markHeldS.l0 k1 y166 (wrap64 ((wrap64 (x1_1+1))+1)) (wrap64 (x5_1+1)))=some (r1,r2):=(by first|(rw [hy166];with_reducible exact H)|(have H2_:=(Option.bind_some _ _).symm.trans H;rw [hy166];with_reducible exact H2_)|(have H2_:=(Option.bind_some _ _).symm.trans H;with_reducible exact H2_)|with_reducible exact H|(rw [hy166];exact H)|exact H);have Ny166:=am_ hy166;clear hy166;have H':=am_ H;clear H;obtain⟨Ao7,co7,eo7⟩:=Kd.R_slice HO_0.out;subst eo7;have p5:0≤(x5_1:Int):=od_;have q5:(x5_1:Int) < ((x0_1.length:Int):Int):=od_;obtain⟨go5,co5,eo5,gb5,gl5,cl5,HG5⟩:=Kd.R_form HO_0.out (by omega);(first|cases eo5|(injection eo5 with ea_ en_ ec_;(first|subst ea_|(injection ea_ with ea_;subst ea_));subst ec_;clear en_));have GB5:=am_ gb5;have GG5:=am_ HG5;clear gb5 gl5 HG5;have HMgo5:=am_ (show (P0_ go5 ∨ w.heap.size≤go5) from(HO_0.out.1 _ rfl));obtain⟨ce5,hcl5,hM5,hcc5,hfr5⟩:=Kd.R_elem HO_0.out z52 (x5_1:Int) p5 q5;obtain rfl:=k52_openM hM5;have hx5_0:wr.cell? ⟨go5,(x5_1:Int).toNat * 2,none⟩=some (.int .i64 ((rd_T52 x0_1 x5_1).f0)):=hcc5 0 _ rfl;have hx5_1:wr.cell? ⟨go5,(x5_1:Int).toNat * 2+1,none⟩=some (.int .i64 ((rd_T52 x0_1 x5_1).f1)):=hcc5 1 _ rfl;have hf5_0:wr.frozen? ⟨go5,(x5_1:Int).toNat * 2,none⟩=false:=hfr5 0;have hf5_1:wr.frozen? ⟨go5,(x5_1:Int).toNat * 2+1,none⟩=false:=hfr5 1;clear hcl5 hcc5 hfr5 hM5;replace p5:=eq_true p5;replace q5:=eq_true q5;have HX8:=am_ (show Kd.R k52 52 wr w0.heap.size (fun k_=>(P0_ k_ ∨ w.heap.size≤k_)) (.slice (some ⟨go5,0,none⟩) x0_1.length co7) x0_1 from(kr_ HO_0));obtain⟨ce8,hcl8,hM8,hcc8,hfr8⟩:=Kd.R_elem HX8.out z52 (x5_1:Int) (od_) (by have h_:(x5_1:Int) < ((x0_1.length:Int):Int):=od_;first|exact h_|(have e_:=(Kd.R_reads' HO_0.out).1;omega)|simpa using h_);obtain rfl:=k52_openM hM8;have HP8:=Kd.R_seg HX8.out (x5_1:Int) (od_) (by have h_:(x5_1:Int) < ((x0_1.length:Int):Int):=od_;first|exact h_|(have e_:=(Kd.R_reads' HO_0.out).1;omega)|simpa using h_) (seg:=[.int .i64 x1_1]) (j:=0) hcl8 hcc8 (show 1≤2 from by decide) (x':=(⟨x1_1,(rd_T52 x0_1 x5_1).f1⟩:S52)) (k52_mkM _ _ _ (⟨x1_1,(rd_T52 x0_1 x5_1).f1⟩:S52) ) (fun _ hk=>by first|exact hk|grind);have hx8_0:=hcc8 0 _ rfl;(try simp only [show (k52).sz=2 from rfl,Nat.mul_one,Nat.add_zero]at hx8_0);have hf8_0:=hfr8 0;(try simp only [show (k52).sz=2 from rfl,Nat.mul_one,Nat.add_zero]at hf8_0);clear hcl8 hcc8 hfr8 hM8;go_wp2_with (first|((with_reducible refine gate_store (t:=3) (p:=16) rfl ?_);refine store_event (t:=3) (p:=16) (v:=?vo_w9) (w1:=(wr.setCell ⟨go5,(x5_1:Int).toNat * 2,none⟩ (.int .i64 x1_1))) ?hg ?ho ?hn ?hr ?_;(case ho=>rfl);(case hg=>rfl);(case hn=>rfl);(case hr=>first|(go_simp;done)|(go_simp;rfl));intro w9 hw;have hg:wr.grownBy w9 (some go5):=(by rw [hw];exact HP8.2);have hp_:Kd.R k52 52 w9 w0.heap.size (fun k_=>(P0_ k_ ∨ w.heap.size≤k_)) (.slice (some ⟨go5,0,none⟩) x0_1.length co7) y165:=(by rw [hw,Ny165.out];exact HP8.1);clear HP8;replace HB:=am_ ((by rw [hw];exact below_set (HB.out) GB5.out:Below w0.heap.size w0 w9));replace HK:=am_ (Kept.of_grown (S:=(fun k_=>P0_ k_)) hg (by repeat (first|(with_reducible first|exact HK.out|apply Kept.alloc|apply Kept.drewN|apply Kept.drew)|exact HK.out)) (fun k_ e_=>(HO_0.out.1 k_ e_)));replace HO_0:=am_ (hp_);clear hg hw hp_;have p6:0≤(x5_1:Int):=od_;have q6:(x5_1:Int) < ((x0_1.length:Int):Int):=od_;obtain⟨ce6,hcl6,hM6,hcc6,hfr6⟩:=Kd.R_elem HO_0.out z52 (x5_1:Int) p6 q6;obtain rfl:=k52_openM hM6;have hx6_0:w9.cell? ⟨go5,(x5_1:Int).toNat * 2,none⟩=some (.int .i64 ((rd_T52 y165 x5_1).f0)):=hcc6 0 _ rfl;have hx6_1:w9.cell? ⟨go5,(x5_1:Int).toNat * 2+1,none⟩=some (.int .i64 ((rd_T52 y165 x5_1).f1)):=hcc6 1 _ rfl;have hf6_0:w9.frozen? ⟨go5,(x5_1:Int).toNat * 2,none⟩=false:=hfr6 0;have hf6_1:w9.frozen? ⟨go5,(x5_1:Int).toNat * 2+1,none⟩=false:=hfr6 1;clear hcl6 hcc6 hfr6 hM6;replace p6:=eq_true p6;replace q6:=eq_true q6;have HX10:=am_ (show Kd.R k52 52 w9 w0.heap.size (fun k_=>(P0_ k_ ∨ w.heap.size≤k_)) (.slice (some ⟨go5,0,none⟩) x0_1.length co7) y165 from(kr_ HO_0));obtain⟨ce10,hcl10,hM10,hcc10,hfr10⟩:=Kd.R_elem HX10.out z52 (x5_1:Int) (od_) (by have h_:(x5_1:Int) < ((x0_1.length:Int):Int):=od_;first|exact h_|(have e_:=(Kd.R_reads' HO_0.out).1;omega)|simpa using h_);obtain rfl:=k52_openM hM10;have HP10:=Kd.R_seg HX10.out (x5_1:Int) (od_) (by have h_:(x5_1:Int) < ((x0_1.length:Int):Int):=od_;first|exact h_|(have e_:=(Kd.R_reads' HO_0.out).1;omega)|simpa using h_) (seg:=[.int .i64 (wrap64 (x1_1+1))]) (j:=1) hcl10 hcc10 (show 2≤2 from by decide) (x':=(⟨(rd_T52 y165 x5_1).f0,wrap64 (x1_1+1)⟩:S52)) (k52_mkM _ _ _ (⟨(rd_T52 y165 x5_1).f0,wrap64 (x1_1+1)⟩:S52) ) (fun _ hk=>by first|exact hk|grind);have hx10_1:=hcc10 1 _ rfl;(try simp only [show (k52).sz=2 from rfl,Nat.mul_one,Nat.add_zero]at hx10_1);have hf10_1:=hfr10 1;(try simp only [show (k52).sz=2 from rfl,Nat.mul_one,Nat.add_zero]at hf10_1);clear hcl10 hcc10 hfr10 hM10)|((with_reducible refine gate_store (t:=3) (p:=23) rfl ?_);refine store_event (t:=3) (p:=23) (v:=?vo_w11) (w1:=(w9.setCell ⟨go5,(x5_1:Int).toNat * 2+1,none⟩ (.int .i64 (wrap64 (x1_1+1))))) ?hg ?ho ?hn ?hr ?_;(case ho=>rfl);(case hg=>rfl);(case hn=>rfl);(case hr=>first|(go_simp;done)|(go_simp;rfl));intro w11 hw;have hg:w9.grownBy w11 (some go5):=(by rw [hw];exact HP10.2);have hp_:Kd.R k52 52 w11 w0.heap.size (fun k_=>(P0_ k_ ∨ w.heap.size≤k_)) (.slice (some ⟨go5,0,none⟩) x0_1.length co7) y166:=(by rw [hw,Ny166.out];exact HP10.1);clear HP10;replace HB:=am_ ((by rw [hw];exact below_set (HB.out) GB5.out:Below w0.heap.size w0 w11));replace HK:=am_ (Kept.of_grown (S:=(fun k_=>P0_ k_)) hg (by repeat (first|(with_reducible first|exact HK.out|apply Kept.alloc|apply Kept.drewN|apply Kept.drew)|exact HK.out)) (fun k_ e_=>(HO_0.out.1 k_ e_)));replace HO_0:=am_ (hp_);clear hg hw hp_))
     go_roundg k1
     case measure=>have:=HK1.out;omega
     case rel=>exact⟨(y166),(wrap64 ((wrap64 (x1_1+1))+1)),(wrap64 (x5_1+1)),re_,re_,H',⟨by have:=HK1.out;omega⟩,⟨kr_ HO_0⟩,⟨by repeat (first|(with_reducible first|exact HK.out|apply Kept.alloc|apply Kept.drewN|apply Kept.drew)|exact HK.out)⟩,⟨be_ HB⟩⟩
    ·rw [if_neg c4]at H;exact absurd H (by simp)
   ·rw [if_neg c3]at H;have c3b0:decide (x5_1 < (x0_1.length:Int))=false:=decide_eq_false c3;clear c3;simp only [Option.some.injEq,Prod.mk.injEq]at H;obtain⟨rfl,rfl⟩:=H;obtain⟨Ao12,co12,eo12⟩:=Kd.R_slice HO_0.out;subst eo12;go_wp2;go_ret;exact⟨er_,by(with_reducible repeat (first|apply Kd.R_alloc|apply Kd.R_drewN|apply Kd.R_drew));exact HO_0.out,bf_ HB,by repeat (first|(with_reducible first|exact HK.out|apply Kept.alloc|apply Kept.drewN|apply Kept.drew)|exact HK.out)⟩

/-! ### laws_markLaneS: function 91 (wip/hand) -/
def laws_markLaneS.l0:Nat→List (S80)→Int→Int→Option (Int × (List (S80)))
  | 0,_,_,_=>none
  | k+1,x0,x1,x5=>if x5 < (x0.length:Int) then(if 0≤x5 then((laws_markHeldS.f k (rd_T80 x0 x5).f1 (wrap64 (x1+1))).bind fun t=>laws_markLaneS.l0 k (x0.set (x5:Int).toNat (⟨x1,t.2⟩:S80)) t.1 (wrap64 (x5+1))) else(none)) else(some (x1,x0))
def laws_markLaneS.f (k:Nat) (l0:List (S80)) (a1:Int):Option (Int × (List (S80))):=laws_markLaneS.l0 k l0 a1 0
theorem laws_markLaneS.mono_l:∀ k,(∀ y0 y1 y2,LeO (laws_markLaneS.l0 k y0 y1 y2) (laws_markLaneS.l0 (k+1) y0 y1 y2))
  | 0=>fun _ _ _ r h=>by simp [laws_markLaneS.l0]at h
  | k+1=>by
    have ih0:=laws_markLaneS.mono_l k;intro y0 y1 y2;unfold laws_markLaneS.l0;exact LeO.ite (LeO.ite (LeO.bind (laws_markHeldS.mono _ _ _) (fun _=>ih0 _ _ _)) (LeO.refl _)) (LeO.refl _)
theorem laws_markLaneS.mono:∀ a0 a1 k,LeO (laws_markLaneS.f k a0 a1) (laws_markLaneS.f (k+1) a0 a1):=by
  intro a0 a1 k;unfold laws_markLaneS.f;exact laws_markLaneS.mono_l k _ _ _
theorem laws_markLaneS.eset (l:List (S80)) (i:Int) (h0:0≤i) (h1:i < (l.length:Int)) (y:S80):(l.set i.toNat y).getD i.toNat z80=y:=by
  rw [List.getD_eq_getElem?_getD,List.getElem?_set_self (by omega)];rfl
set_option maxHeartbeats 80000000 in
set_option maxRecDepth 100000 in
theorem laws_markLaneS.calls (k:Nat) (P0_:Nat→Prop) (u9000_:Value) (l0:List (S80)) (a1:Int) (r1:Int) (r2:List (S80)) (w0 w:World) (hB:Below w0.heap.size w0 w) (ho0:Kd.S k80 80 w w0.heap.size P0_ u9000_ l0) (h:laws_markLaneS.f k l0 a1=some (r1,r2)) :
  Calls Try.prog 91 #[u9000_,.int .i64 a1] w fun e w'=>e=.returned (.int .i64 r1)∧Kd.S k80 80 w' w0.heap.size P0_ u9000_ r2∧Below w0.heap.size w0 w'∧Kept w w' (fun k_=>P0_ k_):=by
  have HO0:=am_ ho0;have HK:=am_ (Kept.refl w (fun k_=>P0_ k_));have HB:=am_ hB;have H':Aside0 (laws_markLaneS.l0 k l0 a1 0=some (r1,r2)):=am_ h;clear h hB ho0
  go_enter Try.func91,Try.ntmps91
  go_wp2
  go_loopg [1,5] k (fun kq v1 v5 w'=>∃ (x0_1:List (S80)) (x1_1:Int) (x5_1:Int),v1=.int .i64 x1_1∧v5=.int .i64 x5_1∧Aside0 (laws_markLaneS.l0 kq x0_1 x1_1 x5_1=some (r1,r2))∧Aside0 (kq≤k)∧Aside0 (Kd.S k80 80 w' w0.heap.size P0_ u9000_ x0_1)∧Aside0 (Kept w w' (fun k_=>P0_ k_))∧Aside0 (Below w0.heap.size w0 w'))
  case atStart=>exact⟨l0,a1,0,rfl,rfl,H',⟨Nat.le_refl _⟩,HO0,HK,HB⟩
  case round =>
    clear H' HO0;obtain⟨x0_1,x1_1,x5_1,rfl,rfl,HA,HK1,HO_0,HK,HB⟩:=hrel
    cases gk with
    | zero=>exact absurd HA.out (by simp [laws_markLaneS.l0])
    | succ k1 =>
      have H:=HA.out;clear HA;simp only [laws_markLaneS.l0]at H
      by_cases c3:x5_1 < (x0_1.length:Int)
      · rw [if_pos c3]at H
        by_cases c4:0≤x5_1
        · rw [if_pos c4]at H;obtain⟨⟨t1,t2⟩,ht,H⟩:=Option.bind_eq_some_iff.mp H;have A9:=am_ ht;have H':=am_ H;clear H ht;obtain⟨go5,co5,eo5,gb5,gl5,cl5,HG5⟩:=Kd.S_form HO_0.out (by omega);subst eo5;obtain⟨oki,cs,hcl,hM,hcc,hok,hH⟩:=Kd.S_lend HO_0.out z80 x5_1 c4 (by omega);obtain⟨v1,rfl,hR1⟩:=k80_openM hM;obtain⟨_,_,_,_,hfr⟩:=Kd.R_elem (Kd.S_R HO_0.out) z80 x5_1 c4 (by omega);have hf0:wr.frozen? ⟨go5,x5_1.toNat * 2,none⟩=false:=hfr 0;have hx0:wr.cell? ⟨go5,x5_1.toNat * 2,none⟩=some (.int .i64 (rd_T80 x0_1 x5_1).f0):=hcc 0 _ rfl;have HP:=am_ (Kd.S_seg0 hH c4 (by omega) (seg:=[.int .i64 x1_1]) (j:=0) (show 1≤2 from by decide) (x':=(⟨x1_1,(rd_T80 x0_1 x5_1).f1⟩:S80)) (k80_mkM _ _ _ (⟨x1_1,(rd_T80 x0_1 x5_1).f1⟩:S80) hR1) (fun _ hk=>hk));have GB5:=am_ gb5;have HM5:=am_ (show (P0_ go5 ∨ w.heap.size≤go5)from .inl ((Kd.S_R HO_0.out).1 _ rfl));have HQ3:=am_ c3;have HQ4:=am_ c4;have c3b0:decide (x5_1 < (x0_1.length:Int))=true:=decide_eq_true c3;have p5:=eq_true c4;have q5:=eq_true c3;clear hcl hM hcc hok hH hR1 hfr gb5 gl5 HG5 c3 c4;go_wp2_with (first|((with_reducible refine gate_store (t:=3) (p:=16) rfl ?_);refine store_event (t:=3) (p:=16) (v:=?vo_w9) (w1:=(wr.setCell ⟨go5,(x5_1:Int).toNat * 2,none⟩ (.int .i64 x1_1))) ?hg ?ho ?hn ?hr ?_;(case ho=>rfl);(case hg=>rfl);(case hn=>rfl);(case hr=>first|(go_simp;done)|(go_simp;rfl));intro w9 hw;have hg:wr.grownBy w9 (some go5):=(by rw [hw];exact HP.out.2);have hp_:Kd.S k80 80 w9 w0.heap.size P0_ (.slice (some ⟨go5,0,none⟩) x0_1.length co5) (x0_1.set (x5_1:Int).toNat (⟨x1_1,(rd_T80 x0_1 x5_1).f1⟩:S80)):=(by rw [hw];exact HP.out.1);clear HP;have HO2:=am_ hp_;have HB2:=am_ (by rw [hw];exact below_set (HB.out) GB5.out:Below w0.heap.size w0 w9);have HK2:=am_ (Kept.of_grown (S:=(fun k_=>P0_ k_)) hg HK.out (fun k_ e_=>by injection e_ with e_;rw [← e_];exact HM5.out));clear HO_0 HB HK;obtain⟨oki2,cs2,hcl2,hM2,hcc2,hok2,hH2⟩:=Kd.S_lend hp_ z80 x5_1 HQ4.out HQ3.out;rw [laws_markLaneS.eset x0_1 x5_1 HQ4.out HQ3.out]at hM2;obtain⟨v2,rfl,hR2⟩:=k80_openM hM2;have hx2:w9.cell? ⟨go5,x5_1.toNat * 2+1,none⟩=some v2:=hcc2 1 _ rfl;have HR2:=am_ hR2;have HH2:=am_ hH2;have HOK2:=am_ hok2;clear hp_ hg hw hcl2 hM2 hcc2 hok2 hH2 hR2)|(go_at_call 129;refine(laws_markHeldS.calls k1 oki2 v2 _ _ t1 t2 w0 w9 HB2.out HR2.out A9.out).mono ?_;rintro e w' ⟨rfl,hR',hB',hK'⟩;have HR3:=am_ (Kd.R_reok rfl hR' (fun k_ e_=>HR2.out.1 k_ e_));have HB3:=am_ hB';have HK3:=am_ hK';clear hR' hB' hK'))
          go_roundg k1
          case measure=>have:=HK1.out;omega
          case rel =>
            refine⟨x0_1.set (x5_1:Int).toNat (⟨x1_1,t2⟩:S80),t1,wrap64 (x5_1+1),rfl,rfl,H',⟨by have:=HK1.out;omega⟩,⟨?_⟩,⟨HK2.out.then_ HK3.out (fun k_ hk=>.inl (HOK2.out k_ hk).1)⟩,HB3⟩;have hH3:=Kd.H_kept HH2.out HK3.out (fun k_ _ hn hs=>hn hs);have hb:=Kd.H_back hH3 (k80_mkM _ _ _ (⟨x1_1,t2⟩:S80) HR3.out) (fun k_ hk=>hk)
            rwa [List.set_set]at hb
        · rw [if_neg c4]at H;exact absurd H (by simp)
      · rw [if_neg c3]at H;have c3b0:decide (x5_1 < (x0_1.length:Int))=false:=decide_eq_false c3;simp only [Option.some.injEq,Prod.mk.injEq]at H;obtain⟨rfl,rfl⟩:=H;clear c3;obtain⟨Ao12,co12,eo12⟩:=Kd.S_slice HO_0.out;subst eo12;go_wp2;go_ret;exact⟨rfl,HO_0.out,HB.out,HK.out⟩

/-! ### laws_markBuf: function 31 (wip/hand) -/
/-! ### rows of rows told apart by their ages -/
section
variable {α β : Type} {d : Kd α} {df : Kd β} {e e2 base base2 n g t : Nat} {W W2 w1 : World} {ok ok2 P : Nat → Prop} {u v : Value} {xs : List α} {ys : List β} {cs : Array Value}
theorem age_n (_h:Kd.S d e w1 W.heap.size ok v xs):∃ n,Aside0 (n=W.heap.size):=⟨_,⟨rfl⟩⟩
theorem age_elder (h:Kd.S d e W base ok u xs) (hn:n=W.heap.size) (hb:Below W.heap.size W w1):Kd.S d e w1 base (fun k=>ok k∧k < n) u xs:=Kd.S_mono (Kd.S_below (Kd.S_bound h) hb) (fun k hk=>⟨hk.1,hn ▸ hk.2.2.1⟩)
theorem age_new (h:Kd.S d e w1 W.heap.size ok v xs) (hn:n=W.heap.size):Kd.S d e w1 W.heap.size (fun k=>ok k∧n≤k) v xs:=Kd.S_mono (Kd.S_bound h) (fun k hk=>⟨hk.1,hn ▸ hk.2.1⟩)
theorem age_pm (h:Kd.S d e W base ok v xs):∃ P:Nat→Prop,(∀ k,P k→ok k∧base≤k∧k < W.heap.size∧∃ q,q ∈ e :: d.E∧∃ cells,W.heap[k]?=some (.cells cells q (0,0)))∧Kd.S d e W base P v xs:=⟨_,fun _ hk=>hk,Kd.S_bound h⟩
theorem age_flat (hf:df.R e2 W base2 ok2 u ys) (hpm:∀ k,P k→ok k∧base≤k∧k < W.heap.size∧∃ q,q ∈ e :: d.E∧∃ cells,W.heap[k]?=some (.cells cells q (0,0))) (hk:Kept W W2 P) (hd:∀ q,q ∈ e2 :: df.E→q ∉ e :: d.E):df.R e2 W2 base2 ok2 u ys :=
  Kd.R_mono (Kd.R_keptB (Kd.R_bound hf) hk (fun k h1 h2=>by
    obtain⟨_,_,_,q,hq,c,hc⟩:=h1;obtain⟨_,_,_,q',hq',c',hc'⟩:=hpm k h2;rw [hc]at hc';injection hc' with hc';injection hc' with _ hc';subst hc'
    exact hd _ hq hq')) (fun _ h=>h.1.1)
theorem age_blk (hb:W.heap[g]?=some (.cells cs t (0,0))) (hpm:∀ k,P k→ok k∧base≤k∧k < W.heap.size∧∃ q,q ∈ e :: d.E∧∃ cells,W.heap[k]?=some (.cells cells q (0,0))) (hk:Kept W W2 P) (hd:t ∉ e :: d.E):W2.heap[g]?=some (.cells cs t (0,0)) :=
  (hk.2 g (blk_lt hb) (fun h2=>by
    obtain⟨_,_,_,q,hq,c,hc⟩:=hpm g h2;rw [hb]at hc;injection hc with hc;injection hc with _ hc;subst hc
    exact hd hq)).trans hb
end
def laws_markBuf.f (k:Nat) (a0_0:Int) (a0_1:Int) (a0_2:Int) (a0_3:Int) (a0_4:Bool) (l0_5:List (S80)) (a1:Int):Option (Int × (List (S80))):=(laws_markLaneS.f k l0_5 a1).bind fun bt=>(some (bt.1,bt.2))
theorem laws_markBuf.mono:∀ a0 a1 a2 a3 a4 a5 a6 k,LeO (laws_markBuf.f k a0 a1 a2 a3 a4 a5 a6) (laws_markBuf.f (k+1) a0 a1 a2 a3 a4 a5 a6):=by
  intro a0 a1 a2 a3 a4 a5 a6 k;unfold laws_markBuf.f;exact LeO.bind (laws_markLaneS.mono _ _ _) (fun _=>LeO.refl _)
set_option maxHeartbeats 80000000 in
set_option maxRecDepth 100000 in
theorem laws_markBuf.calls (k:Nat) (a0_0:Int) (a0_1:Int) (a0_2:Int) (a0_3:Int) (a0_4:Bool) (P0_5_:Nat→Prop) (u9000_:Value) (l0_5:List (S80)) (a1:Int) (r1:Int) (r2:List (S80)) (w0 w:World) (hB:Below w0.heap.size w0 w) (ho0_5:Kd.S k80 80 w w0.heap.size P0_5_ u9000_ l0_5) (h:laws_markBuf.f k a0_0 a0_1 a0_2 a0_3 a0_4 l0_5 a1=some (r1,r2)) :
  Calls Try.prog 31 #[.agg #[.int .i64 a0_0,.int .i64 a0_1,.int .i64 a0_2,.int .i64 a0_3,.bool a0_4,u9000_],.int .i64 a1] w fun e w'=>e=.returned (.int .i64 r1)∧Kd.S k80 80 w' w0.heap.size P0_5_ u9000_ r2∧Below w0.heap.size w0 w'∧Kept w w' (fun k_=>P0_5_ k_):=by
  have hu47:=Try.underlying47;have HK:=am_ (Kept.refl w (fun k_=>P0_5_ k_));have HB:=am_ hB;unfold laws_markBuf.f at h;obtain⟨⟨t1,t2⟩,A3,H⟩:=Option.bind_eq_some_iff.mp h;have A3:=am_ A3;simp only [Option.some.injEq,Prod.mk.injEq]at H;obtain⟨rfl,rfl⟩:=H;obtain⟨Ao4,co4,eo4⟩:=Kd.S_slice ho0_5;subst eo4;have HO:=am_ ho0_5;clear h hB ho0_5
  go_enter Try.func31,Try.ntmps31
  go_wp2_with (first|((with_reducible refine gd_ 2 rfl ?_);refine bv_ 2 #[.int .i64 a0_0,.int .i64 a0_1,.int .i64 a0_2,.int .i64 a0_3,.bool a0_4,.slice Ao4 l0_5.length co4] 47 ?_;intro gb hg w5 hbox hb;have n0_:=am_ (Kd.S_below HO.out hb);have n1_:=am_ (Kept.below (S:=(fun k_=>P0_5_ k_)) HK.out hb);have n2_:=am_ (below_step (be_ HB) hb);have n3_:=am_ hbox;clear HO HK HB;have HO:=n0_;have HK:=n1_;have HB:=n2_;have BK:=n3_;clear n0_ n1_ n2_ n3_ hb hbox hg;have hcz:=bc_ BK 5 (.slice Ao4 l0_5.length co4) rfl;have hfz:=blk_frozen BK.out 5)|(go_at_call 91;(with_reducible refine(laws_markLaneS.calls k (fun k_=>P0_5_ k_) (.slice Ao4 l0_5.length co4) l0_5 a1 t1 t2 w0 _ ?side1 ?side2 A3.out).mono ?_);(case side1=>exact be_ HB);(case side2=>(with_reducible repeat (first|apply Kd.S_alloc|apply Kd.S_drewN|apply Kd.S_drew));exact HO.out);rintro e w7 ⟨rfl,hy,hb,hk⟩;have n0_:=am_ hy;have n1_:=am_ (Kept.then_ (S:=(fun k_=>P0_5_ k_)) (by repeat (first|(with_reducible first|exact HK.out|apply Kept.alloc|apply Kept.drewN|apply Kept.drew)|exact HK.out)) hk (fun k_ hs_=>.inl hs_));have n2_:=am_ hb;clear HO HK HB hy hb hk;have HO:=n0_;have HK:=n1_;have HB:=n2_;clear n0_ n1_ n2_));go_ret;exact⟨rfl,by(with_reducible repeat (first|apply Kd.S_alloc|apply Kd.S_drewN|apply Kd.S_drew));exact HO.out,be_ HB,by repeat (first|(with_reducible first|exact HK.out|apply Kept.alloc|apply Kept.drewN|apply Kept.drew)|exact HK.out)⟩

/-! ### laws_markIntS: function 32 -/
def laws_markIntS.l0:Nat→List Int→Int→Int→Option (Int × List Int)
  | 0,_,_,_=>none
  | k+1,x0,x1,x5=>if x5 < (x0.length:Int) then(if 0≤x5 then(laws_markIntS.l0 k (x0.set (x5:Int).toNat x1) (wrap64 (x1+1)) (wrap64 (x5+1))) else(none)) else(some (x1,x0))
def laws_markIntS.f (k:Nat) (l0:List Int) (a1:Int):Option (Int × List Int):=laws_markIntS.l0 k l0 a1 0
theorem laws_markIntS.mono_l:∀ k,(∀ y0 y1 y2,LeO (laws_markIntS.l0 k y0 y1 y2) (laws_markIntS.l0 (k+1) y0 y1 y2))
 | 0=>fun _ _ _ r h=>by simp [laws_markIntS.l0]at h
 | k+1=>by
  have ih0:=laws_markIntS.mono_l k
  ·intro y0 y1 y2;unfold laws_markIntS.l0
   repeat' (first|(with_reducible exact ih0 ..)|(with_reducible exact LeO.refl _)|(with_reducible exact LeO.none _)|(with_reducible refine LeO.ite ?_ ?_)|(with_reducible refine LeO.bind ?_ (fun _=>?_))|exact ih0 ..|exact LeO.none _|refine LeO.ite ?_ ?_|refine LeO.bind ?_ (fun _=>?_))
theorem laws_markIntS.mono:∀ a0 a1 k,LeO (laws_markIntS.f k a0 a1) (laws_markIntS.f (k+1) a0 a1):=by
 intro a0 a1 k;have ih0:=laws_markIntS.mono_l k;unfold laws_markIntS.f
 repeat' (first|(with_reducible exact ih0 ..)|(with_reducible exact LeO.refl _)|(with_reducible exact LeO.none _)|(with_reducible refine LeO.ite ?_ ?_)|(with_reducible refine LeO.bind ?_ (fun _=>?_))|exact ih0 ..|exact LeO.none _|refine LeO.ite ?_ ?_|refine LeO.bind ?_ (fun _=>?_))
set_option maxHeartbeats 80000000 in
set_option maxRecDepth 100000 in
theorem laws_markIntS.calls (k:Nat) (P0_:Nat→Prop) (u9000_:Value) (l0:List Int) (a1:Int) (r1:Int) (r2:List Int) (w0 w:World) (hB:Below w0.heap.size w0 w) (ho0:Kd.R (Kd.int .i64) 3 w w0.heap.size P0_ u9000_ l0) (h:laws_markIntS.f k l0 a1=some (r1,r2)) :
  Calls Try.prog 32 #[u9000_,.int .i64 a1] w fun e w'=>e=.returned (.int .i64 r1)∧Kd.R (Kd.int .i64) 3 w' w0.heap.size (fun k_=>(P0_ k_ ∨ w.heap.size≤k_)) u9000_ r2∧Below w0.heap.size w0 w'∧Kept w w' (fun k_=>P0_ k_):=by
 have HO0:=am_ (show Kd.R (Kd.int .i64) 3 w w0.heap.size (fun k_=>(P0_ k_ ∨ w.heap.size≤k_)) u9000_ l0 from Kd.R_mono ho0 (fun k_ hk=>by first|exact(.inl hk)|grind));have HK:=am_ (Kept.refl w (fun k_=>P0_ k_));have HW0:=am_ hB.size;have HB:=am_ hB;clear hB;have H:=h;clear h;unfold laws_markIntS.f at H;have H':=am_ H;clear H
 go_enter Try.func32,Try.ntmps32
 go_wp2
 go_loopg [1,5] k (fun kq v1 v5 w'=>∃ (x0_1:List Int) (x1_1:Int) (x5_1:Int),v1=.int .i64 x1_1∧v5=.int .i64 x5_1∧Aside0 (laws_markIntS.l0 kq x0_1 x1_1 x5_1=some (r1,r2))∧Aside0 (kq≤k)∧Aside0 (Kd.R (Kd.int .i64) 3 w' w0.heap.size (fun k_=>(P0_ k_ ∨ w.heap.size≤k_)) u9000_ x0_1)∧Aside0 (Kept w w' (fun k_=>P0_ k_))∧Aside0 (Below w0.heap.size w0 w'))
 case atStart=>exact⟨(l0),(a1),(0),re_,re_,H',⟨Nat.le_refl _⟩,⟨kr_ HO0⟩,⟨by repeat (first|(with_reducible first|exact HK.out|apply Kept.alloc|apply Kept.drewN|apply Kept.drew)|exact HK.out)⟩,⟨be_ HB⟩⟩
 case round =>
  clear H';obtain⟨x0_1,x1_1,x5_1,rfl,rfl,HA,HK1,HO_0,HK,HB⟩:=hrel
  cases gk with
  | zero=>exact absurd HA.out (by simp [laws_markIntS.l0])
  | succ k1 =>
   have H:=HA.out;clear HA;simp only [laws_markIntS.l0]at H
   by_cases c3:x5_1 < (x0_1.length:Int)
   ·rw [if_pos c3]at H;have c3b0:decide (x5_1 < (x0_1.length:Int))=true:=decide_eq_true c3;clear c3
    by_cases c4:0≤x5_1
    ·rw [if_pos c4]at H;have c4b0:decide (0≤x5_1)=true:=decide_eq_true c4;clear c4;obtain⟨y167,hy167⟩:∃ y_:List Int,y_=(x0_1.set (x5_1:Int).toNat x1_1):=⟨_,rfl⟩;replace H:(laws_markIntS.l0 k1 y167 (wrap64 (x1_1+1)) (wrap64 (x5_1+1)))=some (r1,r2):=(by first|(rw [hy167];with_reducible exact H)|(have H2_:=(Option.bind_some _ _).symm.trans H;rw [hy167];with_reducible exact H2_)|(have H2_:=(Option.bind_some _ _).symm.trans H;with_reducible exact H2_)|with_reducible exact H|(rw [hy167];exact H)|exact H);have Ny167:=am_ hy167;clear hy167;have H':=am_ H;clear H;obtain⟨Ao6,co6,eo6⟩:=Kd.R_slice HO_0.out;subst eo6;have p5:0≤(x5_1:Int):=od_;have q5:(x5_1:Int) < ((x0_1.length:Int):Int):=od_;obtain⟨go5,co5,eo5,gb5,gl5,cl5,HG5⟩:=Kd.R_form HO_0.out (by omega);(first|cases eo5|(injection eo5 with ea_ en_ ec_;(first|subst ea_|(injection ea_ with ea_;subst ea_));subst ec_;clear en_));have GB5:=am_ gb5;have GG5:=am_ HG5;clear gb5 gl5 HG5;have HMgo5:=am_ (show (P0_ go5 ∨ w.heap.size≤go5) from(HO_0.out.1 _ rfl));obtain⟨hx5_0,hf5_0⟩:=Kd.R_celln 0 HO_0.out (x5_1:Int) p5 q5;replace p5:=eq_true p5;replace q5:=eq_true q5;have HP7:=Kd.R_putg HO_0.out (x5_1:Int) x1_1;go_wp2_with (first|((with_reducible refine gate_store (t:=3) (p:=15) rfl ?_);refine store_event (t:=3) (p:=15) (v:=?vo_w8) (w1:=(wr.setCell ⟨go5,(x5_1:Int).toNat,none⟩ (.int .i64 x1_1))) ?hg ?ho ?hn ?hr ?_;(case ho=>rfl);(case hg=>rfl);(case hn=>rfl);(case hr=>first|(go_simp;done)|(go_simp;rfl));intro w8 hw;have hg:wr.grownBy w8 (some go5):=(by rw [hw];exact HP7.2);have hp_:Kd.R (Kd.int .i64) 3 w8 w0.heap.size (fun k_=>(P0_ k_ ∨ w.heap.size≤k_)) (.slice (some ⟨go5,0,none⟩) x0_1.length co6) y167:=(by rw [hw,Ny167.out];exact HP7.1);clear HP7;replace HB:=am_ ((by rw [hw];exact below_set (HB.out) GB5.out:Below w0.heap.size w0 w8));replace HK:=am_ (Kept.of_grown (S:=(fun k_=>P0_ k_)) hg (by repeat (first|(with_reducible first|exact HK.out|apply Kept.alloc|apply Kept.drewN|apply Kept.drew)|exact HK.out)) (fun k_ e_=>(HO_0.out.1 k_ e_)));replace HO_0:=am_ (hp_);clear hg hw hp_))
     go_roundg k1
     case measure=>have:=HK1.out;omega
     case rel=>exact⟨(y167),(wrap64 (x1_1+1)),(wrap64 (x5_1+1)),re_,re_,H',⟨by have:=HK1.out;omega⟩,⟨kr_ HO_0⟩,⟨by repeat (first|(with_reducible first|exact HK.out|apply Kept.alloc|apply Kept.drewN|apply Kept.drew)|exact HK.out)⟩,⟨be_ HB⟩⟩
    ·rw [if_neg c4]at H;exact absurd H (by simp)
   ·rw [if_neg c3]at H;have c3b0:decide (x5_1 < (x0_1.length:Int))=false:=decide_eq_false c3;clear c3;simp only [Option.some.injEq,Prod.mk.injEq]at H;obtain⟨rfl,rfl⟩:=H;obtain⟨Ao9,co9,eo9⟩:=Kd.R_slice HO_0.out;subst eo9;go_wp2;go_ret;exact⟨er_,by(with_reducible repeat (first|apply Kd.R_alloc|apply Kd.R_drewN|apply Kd.R_drew));exact HO_0.out,bf_ HB,by repeat (first|(with_reducible first|exact HK.out|apply Kept.alloc|apply Kept.drewN|apply Kept.drew)|exact HK.out)⟩

/-! ### laws_heldHeldS: function 130 -/
def laws_heldHeldS.l0:Nat→List (S52)→Int→Int→Option (Int)
  | 0,_,_,_=>none
  | k+1,x0,x1,x5=>if x5 < (x0.length:Int) then(if 0≤x5 then(if ((rd_T52 x0 x5).f0)=x1 then(if ((rd_T52 x0 x5).f1)=(wrap64 (x1+1)) then(laws_heldHeldS.l0 k x0 (wrap64 ((wrap64 (x1+1))+1)) (wrap64 (x5+1))) else(some (-1))) else(some (-1))) else(none)) else(some x1)
def laws_heldHeldS.f (k:Nat) (l0:List (S52)) (a1:Int):Option (Int):=laws_heldHeldS.l0 k l0 a1 0
theorem laws_heldHeldS.mono_l:∀ k,(∀ y0 y1 y2,LeO (laws_heldHeldS.l0 k y0 y1 y2) (laws_heldHeldS.l0 (k+1) y0 y1 y2))
 | 0=>fun _ _ _ r h=>by simp [laws_heldHeldS.l0]at h
 | k+1=>by
  have ih0:=laws_heldHeldS.mono_l k
  ·intro y0 y1 y2;unfold laws_heldHeldS.l0
   repeat' (first|(with_reducible exact ih0 ..)|(with_reducible exact LeO.refl _)|(with_reducible exact LeO.none _)|(with_reducible refine LeO.ite ?_ ?_)|(with_reducible refine LeO.bind ?_ (fun _=>?_))|exact ih0 ..|exact LeO.none _|refine LeO.ite ?_ ?_|refine LeO.bind ?_ (fun _=>?_))
theorem laws_heldHeldS.mono:∀ a0 a1 k,LeO (laws_heldHeldS.f k a0 a1) (laws_heldHeldS.f (k+1) a0 a1):=by
 intro a0 a1 k;have ih0:=laws_heldHeldS.mono_l k;unfold laws_heldHeldS.f
 repeat' (first|(with_reducible exact ih0 ..)|(with_reducible exact LeO.refl _)|(with_reducible exact LeO.none _)|(with_reducible refine LeO.ite ?_ ?_)|(with_reducible refine LeO.bind ?_ (fun _=>?_))|exact ih0 ..|exact LeO.none _|refine LeO.ite ?_ ?_|refine LeO.bind ?_ (fun _=>?_))
set_option maxHeartbeats 80000000 in
set_option maxRecDepth 100000 in
theorem laws_heldHeldS.calls (k:Nat) (A0:Option Addr) (c0:Nat) (l0:List (S52)) (a1:Int) (r:Int) (w:World) (hr0:Kd.C k52 w A0 l0.length l0) (hc0:l0.length≤c0) (h:laws_heldHeldS.f k l0 a1=some r) :
  Calls Try.prog 130 #[.slice A0 l0.length c0,.int .i64 a1] w fun e w'=>e=.returned (.int .i64 r)∧Drawn0 w w':=by
 have HR0:=am_ hr0;have HC0:=am_ hc0;clear hr0 hc0;have H:=h;clear h;unfold laws_heldHeldS.f at H;have H':=am_ H;clear H
 go_enter Try.func130,Try.ntmps130
 go_wp2
 go_loopg [1,5] k (fun kq v1 v5 w'=>∃ (x1_1:Int) (x5_1:Int),v1=.int .i64 x1_1∧v5=.int .i64 x5_1∧Aside0 (laws_heldHeldS.l0 kq l0 x1_1 x5_1=some r)∧Aside0 (kq≤k)∧Drawn0 w w')
 case atStart=>exact⟨(a1),(0),re_,re_,H',⟨Nat.le_refl _⟩,by repeat (first|exact Drawn0.refl _|apply Drawn0.step)⟩
 case round =>
  clear H';obtain⟨x1_1,x5_1,rfl,rfl,HA,HK1,⟨m1,rfl⟩⟩:=hrel
  cases gk with
  | zero=>exact absurd HA.out (by simp [laws_heldHeldS.l0])
  | succ k1 =>
   have H:=HA.out;clear HA;simp only [laws_heldHeldS.l0]at H
   by_cases c3:x5_1 < (l0.length:Int)
   ·rw [if_pos c3]at H;have c3b0:decide (x5_1 < (l0.length:Int))=true:=decide_eq_true c3;clear c3
    by_cases c4:0≤x5_1
    ·rw [if_pos c4]at H;have c4b0:decide (0≤x5_1)=true:=decide_eq_true c4;clear c4
     by_cases c5:((rd_T52 l0 x5_1).f0)=x1_1
     ·rw [if_pos c5]at H;have c5b0:(((rd_T52 l0 x5_1).f0) == x1_1)=true:=beq_iff_eq.mpr c5;have c5b1:(((rd_T52 l0 x5_1).f0) != x1_1)=false:=bne_eq_false_iff_eq.mpr c5;clear c5
      by_cases c6:((rd_T52 l0 x5_1).f1)=(wrap64 (x1_1+1))
      ·rw [if_pos c6]at H;have c6b0:(((rd_T52 l0 x5_1).f1) == (wrap64 (x1_1+1)))=true:=beq_iff_eq.mpr c6;have c6b1:(((rd_T52 l0 x5_1).f1) != (wrap64 (x1_1+1)))=false:=bne_eq_false_iff_eq.mpr c6;clear c6;have H':=am_ H;clear H;have p168:0≤(x5_1:Int):=od_;have q168:x5_1 < (l0.length:Int):=od_;obtain⟨ad168,e168,hx168_0,hx168_1⟩:=at_T52 HR0.out x5_1 p168 q168;cases e168;replace p168:=eq_true p168;replace q168:=eq_true q168;have p169:0≤(x5_1:Int):=od_;have q169:x5_1 < (l0.length:Int):=od_;obtain⟨ad169,e169,hx169_0,hx169_1⟩:=at_T52 HR0.out x5_1 p169 q169;obtain rfl:ad168=ad169:=(by injection e169);replace p169:=eq_true p169;replace q169:=eq_true q169;go_wp2
       go_roundg k1
       case measure=>have:=HK1.out;omega
       case rel=>exact⟨(wrap64 ((wrap64 (x1_1+1))+1)),(wrap64 (x5_1+1)),re_,re_,H',⟨by have:=HK1.out;omega⟩,by repeat (first|exact Drawn0.refl _|apply Drawn0.step)⟩
      ·rw [if_neg c6]at H;have c6b0:(((rd_T52 l0 x5_1).f1) == (wrap64 (x1_1+1)))=false:=beq_eq_false_iff_ne.mpr c6;have c6b1:(((rd_T52 l0 x5_1).f1) != (wrap64 (x1_1+1)))=true:=bne_iff_ne.mpr c6;obtain rfl:=Option.some.inj H;have p168:0≤(x5_1:Int):=od_;have q168:x5_1 < (l0.length:Int):=od_;obtain⟨ad168,e168,hx168_0,hx168_1⟩:=at_T52 HR0.out x5_1 p168 q168;cases e168;replace p168:=eq_true p168;replace q168:=eq_true q168;have p169:0≤(x5_1:Int):=od_;have q169:x5_1 < (l0.length:Int):=od_;obtain⟨ad169,e169,hx169_0,hx169_1⟩:=at_T52 HR0.out x5_1 p169 q169;obtain rfl:ad168=ad169:=(by injection e169);replace p169:=eq_true p169;replace q169:=eq_true q169;go_wp2;go_ret;exact⟨by first|rfl|(simp;done)|(simp [*];done),by repeat (first|exact Drawn0.refl _|apply Drawn0.step)⟩
     ·rw [if_neg c5]at H;have c5b0:(((rd_T52 l0 x5_1).f0) == x1_1)=false:=beq_eq_false_iff_ne.mpr c5;have c5b1:(((rd_T52 l0 x5_1).f0) != x1_1)=true:=bne_iff_ne.mpr c5;obtain rfl:=Option.some.inj H;have p168:0≤(x5_1:Int):=od_;have q168:x5_1 < (l0.length:Int):=od_;obtain⟨ad168,e168,hx168_0,hx168_1⟩:=at_T52 HR0.out x5_1 p168 q168;cases e168;replace p168:=eq_true p168;replace q168:=eq_true q168;go_wp2;go_ret;exact⟨by first|rfl|(simp;done)|(simp [*];done),by repeat (first|exact Drawn0.refl _|apply Drawn0.step)⟩
    ·rw [if_neg c4]at H;exact absurd H (by simp)
   ·rw [if_neg c3]at H;have c3b0:decide (x5_1 < (l0.length:Int))=false:=decide_eq_false c3;clear c3;obtain rfl:=Option.some.inj H;go_wp2;go_ret;exact⟨by first|rfl|(simp;done)|(simp [*];done),by repeat (first|exact Drawn0.refl _|apply Drawn0.step)⟩

/-! ### laws_heldLaneS: function 92 -/
def laws_heldLaneS.l0:Nat→List (S80)→Int→Int→Option (Int)
  | 0,_,_,_=>none
  | k+1,x0,x1,x5=>if x5 < (x0.length:Int) then(if 0≤x5 then(if ((rd_T80 x0 x5).f0)=x1 then((laws_heldHeldS.f k ((rd_T80 x0 x5).f1) (wrap64 (x1+1))).bind fun t172=>(if t172 < 0 then(some (-1)) else(laws_heldLaneS.l0 k x0 t172 (wrap64 (x5+1))))) else(some (-1))) else(none)) else(some x1)
def laws_heldLaneS.f (k:Nat) (l0:List (S80)) (a1:Int):Option (Int):=laws_heldLaneS.l0 k l0 a1 0
theorem laws_heldLaneS.mono_l:∀ k,(∀ y0 y1 y2,LeO (laws_heldLaneS.l0 k y0 y1 y2) (laws_heldLaneS.l0 (k+1) y0 y1 y2))
 | 0=>fun _ _ _ r h=>by simp [laws_heldLaneS.l0]at h
 | k+1=>by
  have ih0:=laws_heldLaneS.mono_l k
  ·intro y0 y1 y2;unfold laws_heldLaneS.l0
   repeat' (first|(with_reducible exact ih0 ..)|(with_reducible exact laws_heldHeldS.mono _ _ _)|(with_reducible exact LeO.refl _)|(with_reducible exact LeO.none _)|(with_reducible refine LeO.ite ?_ ?_)|(with_reducible refine LeO.bind ?_ (fun _=>?_))|exact ih0 ..|exact laws_heldHeldS.mono _ _ _|exact LeO.none _|refine LeO.ite ?_ ?_|refine LeO.bind ?_ (fun _=>?_))
theorem laws_heldLaneS.mono:∀ a0 a1 k,LeO (laws_heldLaneS.f k a0 a1) (laws_heldLaneS.f (k+1) a0 a1):=by
 intro a0 a1 k;have ih0:=laws_heldLaneS.mono_l k;unfold laws_heldLaneS.f
 repeat' (first|(with_reducible exact ih0 ..)|(with_reducible exact laws_heldHeldS.mono _ _ _)|(with_reducible exact LeO.refl _)|(with_reducible exact LeO.none _)|(with_reducible refine LeO.ite ?_ ?_)|(with_reducible refine LeO.bind ?_ (fun _=>?_))|exact ih0 ..|exact laws_heldHeldS.mono _ _ _|exact LeO.none _|refine LeO.ite ?_ ?_|refine LeO.bind ?_ (fun _=>?_))
set_option maxHeartbeats 80000000 in
set_option maxRecDepth 100000 in
theorem laws_heldLaneS.calls (k:Nat) (A0:Option Addr) (c0:Nat) (l0:List (S80)) (a1:Int) (r:Int) (w:World) (hr0:Kd.C k80 w A0 l0.length l0) (hc0:l0.length≤c0) (h:laws_heldLaneS.f k l0 a1=some r) :
  Calls Try.prog 92 #[.slice A0 l0.length c0,.int .i64 a1] w fun e w'=>e=.returned (.int .i64 r)∧Drawn0 w w':=by
 have HR0:=am_ hr0;have HC0:=am_ hc0;clear hr0 hc0;have H:=h;clear h;unfold laws_heldLaneS.f at H;have H':=am_ H;clear H
 go_enter Try.func92,Try.ntmps92
 go_wp2
 go_loopg [1,5] k (fun kq v1 v5 w'=>∃ (x1_1:Int) (x5_1:Int),v1=.int .i64 x1_1∧v5=.int .i64 x5_1∧Aside0 (laws_heldLaneS.l0 kq l0 x1_1 x5_1=some r)∧Aside0 (kq≤k)∧Drawn0 w w')
 case atStart=>exact⟨(a1),(0),re_,re_,H',⟨Nat.le_refl _⟩,by repeat (first|exact Drawn0.refl _|apply Drawn0.step)⟩
 case round =>
  clear H';obtain⟨x1_1,x5_1,rfl,rfl,HA,HK1,⟨m1,rfl⟩⟩:=hrel
  cases gk with
  | zero=>exact absurd HA.out (by simp [laws_heldLaneS.l0])
  | succ k1 =>
   have H:=HA.out;clear HA;simp only [laws_heldLaneS.l0]at H
   by_cases c3:x5_1 < (l0.length:Int)
   ·rw [if_pos c3]at H;have c3b0:decide (x5_1 < (l0.length:Int))=true:=decide_eq_true c3;clear c3
    by_cases c4:0≤x5_1
    ·rw [if_pos c4]at H;have c4b0:decide (0≤x5_1)=true:=decide_eq_true c4;clear c4
     by_cases c5:((rd_T80 l0 x5_1).f0)=x1_1
     ·rw [if_pos c5]at H;have c5b0:(((rd_T80 l0 x5_1).f0) == x1_1)=true:=beq_iff_eq.mpr c5;have c5b1:(((rd_T80 l0 x5_1).f0) != x1_1)=false:=bne_eq_false_iff_eq.mpr c5;clear c5;replace H:=bm1_ H;obtain⟨t172,A6,H⟩:=H
      by_cases c7:t172 < 0
      ·rw [if_pos c7]at H;have c7b0:decide (t172 < 0)=true:=decide_eq_true c7;clear c7;obtain rfl:=Option.some.inj H;have p170:0≤(x5_1:Int):=od_;have q170:x5_1 < (l0.length:Int):=od_;obtain⟨ad170,A170_1,c170_1,e170,hx170_0,hx170_1,hl170_1,hi170_1⟩:=at_T80 HR0.out x5_1 p170 q170;cases e170;have HR170_1:=am_ hi170_1;have HC170_1:=am_ hl170_1;clear hi170_1 hl170_1;replace p170:=eq_true p170;replace q170:=eq_true q170;have p171:0≤(x5_1:Int):=od_;have q171:x5_1 < (l0.length:Int):=od_;obtain⟨ad171,A171_1,c171_1,e171,hx171_0,hx171_1,hl171_1,hi171_1⟩:=at_T80 HR0.out x5_1 p171 q171;obtain rfl:ad170=ad171:=(by injection e171);have HR171_1:=am_ hi171_1;have HC171_1:=am_ hl171_1;clear hi171_1 hl171_1;replace p171:=eq_true p171;replace q171:=eq_true q171;have ea_:=Option.some.inj (hx170_1.symm.trans hx171_1);injection ea_ with ea_ en_ ec_;subst ea_;subst ec_;clear en_;go_wp2_with (first|((with_reducible refine gc_ 130 rfl ?_);refine gk_ 27 Try.func130 (laws_heldHeldS.calls k1 _ _ ((rd_T80 l0 x5_1).f1) (wrap64 (x1_1+1)) t172 _ ?side1 ?side2 A6.out) ?_;(case side1=>repeat (first|exact HR171_1.out|(with_reducible refine Kd.C_alloc ?_ _)|(with_reducible refine Kd.C_drewN ?_ _)|(with_reducible refine Kd.C_drew ?_)));(case side2=>exact HC171_1.out);rintro e w' ⟨rfl,⟨nd,rfl⟩⟩;refine⟨_,rfl,?_⟩));go_ret;exact⟨by first|rfl|(simp;done)|(simp [*];done),by repeat (first|exact Drawn0.refl _|apply Drawn0.step)⟩
      ·rw [if_neg c7]at H;have c7b0:decide (t172 < 0)=false:=decide_eq_false c7;clear c7;have H':=am_ H;clear H;have p170:0≤(x5_1:Int):=od_;have q170:x5_1 < (l0.length:Int):=od_;obtain⟨ad170,A170_1,c170_1,e170,hx170_0,hx170_1,hl170_1,hi170_1⟩:=at_T80 HR0.out x5_1 p170 q170;cases e170;have HR170_1:=am_ hi170_1;have HC170_1:=am_ hl170_1;clear hi170_1 hl170_1;replace p170:=eq_true p170;replace q170:=eq_true q170;have p171:0≤(x5_1:Int):=od_;have q171:x5_1 < (l0.length:Int):=od_;obtain⟨ad171,A171_1,c171_1,e171,hx171_0,hx171_1,hl171_1,hi171_1⟩:=at_T80 HR0.out x5_1 p171 q171;obtain rfl:ad170=ad171:=(by injection e171);have HR171_1:=am_ hi171_1;have HC171_1:=am_ hl171_1;clear hi171_1 hl171_1;replace p171:=eq_true p171;replace q171:=eq_true q171;have ea_:=Option.some.inj (hx170_1.symm.trans hx171_1);injection ea_ with ea_ en_ ec_;subst ea_;subst ec_;clear en_;go_wp2_with (first|((with_reducible refine gc_ 130 rfl ?_);refine gk_ 27 Try.func130 (laws_heldHeldS.calls k1 _ _ ((rd_T80 l0 x5_1).f1) (wrap64 (x1_1+1)) t172 _ ?side1 ?side2 A6.out) ?_;(case side1=>repeat (first|exact HR171_1.out|(with_reducible refine Kd.C_alloc ?_ _)|(with_reducible refine Kd.C_drewN ?_ _)|(with_reducible refine Kd.C_drew ?_)));(case side2=>exact HC171_1.out);rintro e w' ⟨rfl,⟨nd,rfl⟩⟩;refine⟨_,rfl,?_⟩))
       go_roundg k1
       case measure=>have:=HK1.out;omega
       case rel=>exact⟨(t172),(wrap64 (x5_1+1)),re_,re_,H',⟨by have:=HK1.out;omega⟩,by repeat (first|exact Drawn0.refl _|apply Drawn0.step)⟩
     ·rw [if_neg c5]at H;have c5b0:(((rd_T80 l0 x5_1).f0) == x1_1)=false:=beq_eq_false_iff_ne.mpr c5;have c5b1:(((rd_T80 l0 x5_1).f0) != x1_1)=true:=bne_iff_ne.mpr c5;obtain rfl:=Option.some.inj H;have p170:0≤(x5_1:Int):=od_;have q170:x5_1 < (l0.length:Int):=od_;obtain⟨ad170,A170_1,c170_1,e170,hx170_0,hx170_1,hl170_1,hi170_1⟩:=at_T80 HR0.out x5_1 p170 q170;cases e170;have HR170_1:=am_ hi170_1;have HC170_1:=am_ hl170_1;clear hi170_1 hl170_1;replace p170:=eq_true p170;replace q170:=eq_true q170;go_wp2;go_ret;exact⟨by first|rfl|(simp;done)|(simp [*];done),by repeat (first|exact Drawn0.refl _|apply Drawn0.step)⟩
    ·rw [if_neg c4]at H;exact absurd H (by simp)
   ·rw [if_neg c3]at H;have c3b0:decide (x5_1 < (l0.length:Int))=false:=decide_eq_false c3;clear c3;obtain rfl:=Option.some.inj H;go_wp2;go_ret;exact⟨by first|rfl|(simp;done)|(simp [*];done),by repeat (first|exact Drawn0.refl _|apply Drawn0.step)⟩

/-! ### laws_heldBuf: function 33 -/
def laws_heldBuf.f (k:Nat) (a0_0:Int) (a0_1:Int) (a0_2:Int) (a0_3:Int) (a0_4:Bool) (l0_5:List (S80)) (a1:Int):Option (Int):=(laws_heldLaneS.f k l0_5 a1).bind fun t174=>(if t174 < 0 then(some (-1)) else(some t174))
theorem laws_heldBuf.mono:∀ a0 a1 a2 a3 a4 a5 a6 k,LeO (laws_heldBuf.f k a0 a1 a2 a3 a4 a5 a6) (laws_heldBuf.f (k+1) a0 a1 a2 a3 a4 a5 a6):=by
 intro a0 a1 a2 a3 a4 a5 a6 k;unfold laws_heldBuf.f
 repeat' (first|(with_reducible exact laws_heldLaneS.mono _ _ _)|(with_reducible exact LeO.refl _)|(with_reducible exact LeO.none _)|(with_reducible refine LeO.ite ?_ ?_)|(with_reducible refine LeO.bind ?_ (fun _=>?_))|exact laws_heldLaneS.mono _ _ _|exact LeO.none _|refine LeO.ite ?_ ?_|refine LeO.bind ?_ (fun _=>?_))
set_option maxHeartbeats 80000000 in
set_option maxRecDepth 100000 in
theorem laws_heldBuf.calls (k:Nat) (a0_0:Int) (a0_1:Int) (a0_2:Int) (a0_3:Int) (a0_4:Bool) (A0_5:Option Addr) (c0_5:Nat) (l0_5:List (S80)) (a1:Int) (r:Int) (w:World) (hr0_5:Kd.C k80 w A0_5 l0_5.length l0_5) (hc0_5:l0_5.length≤c0_5) (h:laws_heldBuf.f k a0_0 a0_1 a0_2 a0_3 a0_4 l0_5 a1=some r) :
  Calls Try.prog 33 #[.agg #[.int .i64 a0_0,.int .i64 a0_1,.int .i64 a0_2,.int .i64 a0_3,.bool a0_4,.slice A0_5 l0_5.length c0_5],.int .i64 a1] w fun e w'=>e=.returned (.int .i64 r)∧Below w.heap.size w w':=by
 have hu47:=Try.underlying47;have HR0_5:=am_ hr0_5;have HC0_5:=am_ hc0_5;clear hr0_5 hc0_5;have HB:=am_ (Below.refl w.heap.size w);have H:=h;clear h;unfold laws_heldBuf.f at H;replace H:=bm1_ H;obtain⟨t174,A3,H⟩:=H
 by_cases c4:t174 < 0
 ·rw [if_pos c4]at H;have c4b0:decide (t174 < 0)=true:=decide_eq_true c4;clear c4;obtain rfl:=Option.some.inj H
  go_enter Try.func33,Try.ntmps33
  go_wp2_with (first|((with_reducible refine gd_ 2 rfl ?_);refine bv_ 2 #[.int .i64 a0_0,.int .i64 a0_1,.int .i64 a0_2,.int .i64 a0_3,.bool a0_4,.slice A0_5 l0_5.length c0_5] 47 ?_;intro gb173 hg w5 hbox hb;have B173:=am_ (hbox);have GW173:=gw_ HB hg;have GE173:=gw_ HB hg;replace HB:=am_ (below_step (be_ HB) hb);clear hb hbox hg;obtain⟨Z6_0,Z6_1,Z6_2,Z6_3,Z6_4,Z6_5,F6_0,F6_1,F6_2,F6_3,F6_4,F6_5⟩:=bz6_ B173)|((with_reducible refine gc_ 92 rfl ?_);refine gk_ 8 Try.func92 (laws_heldLaneS.calls k _ _ l0_5 a1 t174 _ ?side1 ?side2 A3.out) ?_;(case side1=>repeat (first|exact(Kd.C_below HR0_5.out HB.out)|(with_reducible refine Kd.C_alloc ?_ _)|(with_reducible refine Kd.C_drewN ?_ _)|(with_reducible refine Kd.C_drew ?_)));(case side2=>exact HC0_5.out);rintro e w' ⟨rfl,⟨nd,rfl⟩⟩;refine⟨_,rfl,?_⟩));go_ret;exact⟨er_,bf_ HB⟩
 ·rw [if_neg c4]at H;have c4b0:decide (t174 < 0)=false:=decide_eq_false c4;clear c4;obtain rfl:=Option.some.inj H
  go_enter Try.func33,Try.ntmps33
  go_wp2_with (first|((with_reducible refine gd_ 2 rfl ?_);refine bv_ 2 #[.int .i64 a0_0,.int .i64 a0_1,.int .i64 a0_2,.int .i64 a0_3,.bool a0_4,.slice A0_5 l0_5.length c0_5] 47 ?_;intro gb173 hg w7 hbox hb;have B173:=am_ (hbox);have GW173:=gw_ HB hg;have GE173:=gw_ HB hg;replace HB:=am_ (below_step (be_ HB) hb);clear hb hbox hg;obtain⟨Z8_0,Z8_1,Z8_2,Z8_3,Z8_4,Z8_5,F8_0,F8_1,F8_2,F8_3,F8_4,F8_5⟩:=bz6_ B173)|((with_reducible refine gc_ 92 rfl ?_);refine gk_ 8 Try.func92 (laws_heldLaneS.calls k _ _ l0_5 a1 t174 _ ?side1 ?side2 A3.out) ?_;(case side1=>repeat (first|exact(Kd.C_below HR0_5.out HB.out)|(with_reducible refine Kd.C_alloc ?_ _)|(with_reducible refine Kd.C_drewN ?_ _)|(with_reducible refine Kd.C_drew ?_)));(case side2=>exact HC0_5.out);rintro e w' ⟨rfl,⟨nd,rfl⟩⟩;refine⟨_,rfl,?_⟩));go_ret;exact⟨er_,bf_ HB⟩

/-! ### laws_heldIntS: function 34 -/
def laws_heldIntS.l0:Nat→List Int→Int→Int→Option (Int)
  | 0,_,_,_=>none
  | k+1,x0,x1,x5=>if x5 < (x0.length:Int) then(if 0≤x5 then(if (rd x0 x5)=x1 then(laws_heldIntS.l0 k x0 (wrap64 (x1+1)) (wrap64 (x5+1))) else(some (-1))) else(none)) else(some x1)
def laws_heldIntS.f (k:Nat) (l0:List Int) (a1:Int):Option (Int):=laws_heldIntS.l0 k l0 a1 0
theorem laws_heldIntS.mono_l:∀ k,(∀ y0 y1 y2,LeO (laws_heldIntS.l0 k y0 y1 y2) (laws_heldIntS.l0 (k+1) y0 y1 y2))
 | 0=>fun _ _ _ r h=>by simp [laws_heldIntS.l0]at h
 | k+1=>by
  have ih0:=laws_heldIntS.mono_l k
  ·intro y0 y1 y2;unfold laws_heldIntS.l0
   repeat' (first|(with_reducible exact ih0 ..)|(with_reducible exact LeO.refl _)|(with_reducible exact LeO.none _)|(with_reducible refine LeO.ite ?_ ?_)|(with_reducible refine LeO.bind ?_ (fun _=>?_))|exact ih0 ..|exact LeO.none _|refine LeO.ite ?_ ?_|refine LeO.bind ?_ (fun _=>?_))
theorem laws_heldIntS.mono:∀ a0 a1 k,LeO (laws_heldIntS.f k a0 a1) (laws_heldIntS.f (k+1) a0 a1):=by
 intro a0 a1 k;have ih0:=laws_heldIntS.mono_l k;unfold laws_heldIntS.f
 repeat' (first|(with_reducible exact ih0 ..)|(with_reducible exact LeO.refl _)|(with_reducible exact LeO.none _)|(with_reducible refine LeO.ite ?_ ?_)|(with_reducible refine LeO.bind ?_ (fun _=>?_))|exact ih0 ..|exact LeO.none _|refine LeO.ite ?_ ?_|refine LeO.bind ?_ (fun _=>?_))
set_option maxHeartbeats 80000000 in
set_option maxRecDepth 100000 in
theorem laws_heldIntS.calls (k:Nat) (A0:Option Addr) (c0:Nat) (l0:List Int) (a1:Int) (r:Int) (w:World) (hr0:Kd.C (Kd.int .i64) w A0 l0.length l0) (hc0:l0.length≤c0) (h:laws_heldIntS.f k l0 a1=some r) :
  Calls Try.prog 34 #[.slice A0 l0.length c0,.int .i64 a1] w fun e w'=>e=.returned (.int .i64 r)∧Drawn0 w w':=by
 have HR0:=am_ hr0;have HC0:=am_ hc0;clear hr0 hc0;have H:=h;clear h;unfold laws_heldIntS.f at H;have H':=am_ H;clear H
 go_enter Try.func34,Try.ntmps34
 go_wp2
 go_loopg [1,5] k (fun kq v1 v5 w'=>∃ (x1_1:Int) (x5_1:Int),v1=.int .i64 x1_1∧v5=.int .i64 x5_1∧Aside0 (laws_heldIntS.l0 kq l0 x1_1 x5_1=some r)∧Aside0 (kq≤k)∧Drawn0 w w')
 case atStart=>exact⟨(a1),(0),re_,re_,H',⟨Nat.le_refl _⟩,by repeat (first|exact Drawn0.refl _|apply Drawn0.step)⟩
 case round =>
  clear H';obtain⟨x1_1,x5_1,rfl,rfl,HA,HK1,⟨m1,rfl⟩⟩:=hrel
  cases gk with
  | zero=>exact absurd HA.out (by simp [laws_heldIntS.l0])
  | succ k1 =>
   have H:=HA.out;clear HA;simp only [laws_heldIntS.l0]at H
   by_cases c3:x5_1 < (l0.length:Int)
   ·rw [if_pos c3]at H;have c3b0:decide (x5_1 < (l0.length:Int))=true:=decide_eq_true c3;clear c3
    by_cases c4:0≤x5_1
    ·rw [if_pos c4]at H;have c4b0:decide (0≤x5_1)=true:=decide_eq_true c4;clear c4
     by_cases c5:(rd l0 x5_1)=x1_1
     ·rw [if_pos c5]at H;have c5b0:((rd l0 x5_1) == x1_1)=true:=beq_iff_eq.mpr c5;have c5b1:((rd l0 x5_1) != x1_1)=false:=bne_eq_false_iff_eq.mpr c5;clear c5;have H':=am_ H;clear H;have p175:0≤(x5_1:Int):=od_;have q175:x5_1 < (l0.length:Int):=od_;obtain⟨ad175,e175,hx175_0⟩:=Kd.at_int HR0.out x5_1 p175 q175;cases e175;replace p175:=eq_true p175;replace q175:=eq_true q175;go_wp2
      go_roundg k1
      case measure=>have:=HK1.out;omega
      case rel=>exact⟨(wrap64 (x1_1+1)),(wrap64 (x5_1+1)),re_,re_,H',⟨by have:=HK1.out;omega⟩,by repeat (first|exact Drawn0.refl _|apply Drawn0.step)⟩
     ·rw [if_neg c5]at H;have c5b0:((rd l0 x5_1) == x1_1)=false:=beq_eq_false_iff_ne.mpr c5;have c5b1:((rd l0 x5_1) != x1_1)=true:=bne_iff_ne.mpr c5;obtain rfl:=Option.some.inj H;have p175:0≤(x5_1:Int):=od_;have q175:x5_1 < (l0.length:Int):=od_;obtain⟨ad175,e175,hx175_0⟩:=Kd.at_int HR0.out x5_1 p175 q175;cases e175;replace p175:=eq_true p175;replace q175:=eq_true q175;go_wp2;go_ret;exact⟨by first|rfl|(simp;done)|(simp [*];done),by repeat (first|exact Drawn0.refl _|apply Drawn0.step)⟩
    ·rw [if_neg c4]at H;exact absurd H (by simp)
   ·rw [if_neg c3]at H;have c3b0:decide (x5_1 < (l0.length:Int))=false:=decide_eq_false c3;clear c3;obtain rfl:=Option.some.inj H;go_wp2;go_ret;exact⟨by first|rfl|(simp;done)|(simp [*];done),by repeat (first|exact Drawn0.refl _|apply Drawn0.step)⟩

/-! ### impl_within: function 118 -/
def impl_within.f (a0:Int) (a1:Int) (a2:Int):Option (Bool):=if a0 ≥ a1 then(some (decide (a0≤a2))) else(some false)
set_option maxHeartbeats 80000000 in
set_option maxRecDepth 100000 in
theorem impl_within.calls (a0:Int) (a1:Int) (a2:Int) (r:Bool) (w:World) (h:impl_within.f a0 a1 a2=some r) :
  Calls Try.prog 118 #[.int .i64 a0,.int .i64 a1,.int .i64 a2] w fun e w'=>e=.returned (.bool r)∧Drawn0 w w':=by
 have H:=h;clear h;unfold impl_within.f at H
 by_cases c4:a0 ≥ a1
 ·rw [if_pos c4]at H;have c4b0:decide (a1≤a0)=true:=decide_eq_true c4;clear c4;obtain rfl:=Option.some.inj H
  go_enter Try.func118,Try.ntmps118
  go_wp2;go_ret;exact⟨by first|rfl|(simp;done)|(simp [*];done),by repeat (first|exact Drawn0.refl _|apply Drawn0.step)⟩
 ·rw [if_neg c4]at H;have c4b0:decide (a1≤a0)=false:=decide_eq_false c4;clear c4;obtain rfl:=Option.some.inj H
  go_enter Try.func118,Try.ntmps118
  go_wp2;go_ret;exact⟨by first|rfl|(simp;done)|(simp [*];done),by repeat (first|exact Drawn0.refl _|apply Drawn0.step)⟩

/-! ### impl_isFlow: function 80 -/
def impl_isFlow.f (a0:Int):Option (Bool):=(impl_within.f a0 0 9999).bind fun t176=>(some t176)
set_option maxHeartbeats 80000000 in
set_option maxRecDepth 100000 in
theorem impl_isFlow.calls (a0:Int) (r:Bool) (w:World) (h:impl_isFlow.f a0=some r) :
  Calls Try.prog 80 #[.int .i64 a0] w fun e w'=>e=.returned (.bool r)∧Drawn0 w w':=by
 have H:=h;clear h;unfold impl_isFlow.f at H;replace H:=bm1_ H;obtain⟨t176,A2,H⟩:=H;obtain rfl:=Option.some.inj H
 go_enter Try.func80,Try.ntmps80
 go_wp2_with (first|((with_reducible refine gc_ 118 rfl ?_);refine gk_ 4 Try.func118 (impl_within.calls a0 0 9999 t176 _ A2.out) ?_;rintro e w' ⟨rfl,⟨nd,rfl⟩⟩;refine⟨_,rfl,?_⟩));go_ret;exact⟨by first|rfl|(simp;done)|(simp [*];done),by repeat (first|exact Drawn0.refl _|apply Drawn0.step)⟩

end Go.Proofs.Ytnklakficjpmoaa.PFnExactBufClear
