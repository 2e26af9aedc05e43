-- printed by a program of this session (wip/printx) out of the translation; Lean checks it
import Derived.Test.YtnklakficjpmoaaVFnExactBufClear
import Derived.Test.YtnklakficjpmoaaProg
import Derived.Below
import Derived.Deep.Draws
import Derived.Deep.AppendLies
import Derived.Maps.AppendAt
import Derived.OwnWalk
import Derived.Laws.BytesArg
import Derived.Laws.MakeOwn
import Derived.Laws.OwnMore
import Derived.Deep.OwnRows
import Derived.Tactics
import Derived.Lib.ConvBytes
import Derived.Laws.Slices
import Derived.WalkKit
import Derived.KernelRfl
import Derived.RowKit3
import Derived.Deep.LoopGhost
import Derived.Deep.QuietTactic
import Derived.BigQuiet
import Derived.WideLaws
import Derived.Deep.DeepCutAuto
import Derived.Deep.CutBlock
import Derived.Deep.RegionHeld3
import Derived.Laws.Rows
import Derived.Lib.AppendStr
import Derived.ArgAppend
import Derived.Laws.IdiomCopy
import Derived.OrdersHeld
import Derived.Laws.BitsLemmas
import Derived.RowKit
import Derived.WalkSpells
import Derived.Maps.Own
import Derived.Maps.Views
namespace Go.Proofs.Ytnklakficjpmoaa.PFnExactBufClear
open Go.RowKit Go.Proofs.YtnklakficjpmoaaW.PrintWords Go.Proofs.YtnklakficjpmoaaW.PrintLast Go.Proofs.YtnklakficjpmoaaW.PrintMore
attribute [local go_sem] max2_int min2_int max_two min_two max_three min_three max_four min_four   -- for this text's walks alone
set_option linter.unusedVariables false
set_option linter.unusedSimpArgs false



def errW:Option Int→Value
  | none=>.nilIface
  | some c=>.iface 0 (.int .i64 c)
theorem errW_none:errW none=.nilIface:=rfl
theorem errW_some (c:Int):errW (some c)=.iface 0 (.int .i64 c):=rfl
theorem er_ {p:Prop} (h:p:=by first|rfl|(simp [errW_none,errW_some]<;>rfl)|(simp [*,errW_none,errW_some]<;>rfl)):p:=h

theorem info3:(Try.prog.info? 3).map (fun i=>(i.zero,i.size,i.bytes))=some (some (.int .i64 0),1,8):=by kernel_rfl
theorem info52:(Try.prog.info? 52).map (fun i=>(i.zero,i.size,i.bytes))=some (some (.agg #[(.int .i64 0),(.int .i64 0)]),2,16):=by kernel_rfl
theorem info80:(Try.prog.info? 80).map (fun i=>(i.zero,i.size,i.bytes))=some (some (.agg #[(.int .i64 0),(.slice none 0 0)]),2,32):=by kernel_rfl
-- the values' own types
/-! #### struct type 42 -/
structure S42 where
  f0:Int
  f1:Int
def z42:S42:=⟨(0:Int),(0:Int)⟩
def k42:Kd S42:=Kd.iso (Kd.pair (Kd.int .i64) (Kd.int .i64)) (fun x:S42=>(x.f0,x.f1))
theorem k42_heap:Kd.Heap k42:=Kd.heap_iso _ (Kd.heap_pair (Kd.heap_int .i64) (Kd.heap_int .i64))
theorem k42_open {w:World} {x:S42} {cs:List Value} (h:k42.K w x cs):cs=[.int .i64 x.f0,.int .i64 x.f1]:=by
  obtain⟨_,_,rfl,rfl,rfl⟩:=h;exact rfl
theorem k42_openM {w:World} {base:Nat} {ok:Nat→Prop} {x:S42} {cs:List Value} (h:k42.M w base ok x cs):cs=[.int .i64 x.f0,.int .i64 x.f1]:=by
  obtain⟨_,_,rfl,rfl,rfl⟩:=h;exact rfl
theorem k42_mk (w:World) (x:S42)  : k42.K w x [.int .i64 x.f0,.int .i64 x.f1]:=⟨[.int .i64 x.f0],[.int .i64 x.f1],rfl,rfl,rfl⟩
theorem k42_mkM (w:World) (base:Nat) (ok:Nat→Prop) (x:S42)  : k42.M w base ok x [.int .i64 x.f0,.int .i64 x.f1]:=⟨[.int .i64 x.f0],[.int .i64 x.f1],rfl,rfl,rfl⟩
theorem k42_mkF (W:World) (ok:Nat→Prop) (x:S42):Kd.FK k42 W ok x [.int .i64 x.f0,.int .i64 x.f1]:=fun W2 _=>k42_mk W2 x
def rd_T42 (xs:List S42) (i:Int):S42:=xs.getD i.toNat z42
theorem at_T42 {w:World} {A:Option Addr} {n:Nat} {xs:List S42} (h:Kd.C k42 w A n xs) (i:Int) (h0:0≤i) (h1:i < n):∃ ad ,A=some ad∧w.cell? (ad.add (i.toNat * 2))=some (.int .i64 (rd_T42 xs i).f0)∧w.cell? ⟨(ad.add (i.toNat * 2)).block,(ad.add (i.toNat * 2)).off+1,none⟩=some (.int .i64 (rd_T42 xs i).f1):=by
  obtain⟨ad,c,e,_,hK,hc0⟩:=Kd.C_get h z42 i h0 h1;have hc:∀ j u,c[j]?=some u→w.cell? (ad.add (i.toNat * 2+j))=some u:=hc0;obtain rfl:=k42_open hK;exact⟨ad,e,hc 0 _ rfl,by rw [← add_field _ _ 1 (by omega)];exact hc 1 _ rfl⟩

def rd_L2 (xs:List (List S42)) (i:Int):(List S42):=xs.getD i.toNat ([]:List S42)
theorem at_L2 {w:World} {A:Option Addr} {n:Nat} {xs:List (List S42)} (h:Kd.C (Kd.slice 42 k42) w A n xs) (i:Int) (h0:0≤i) (h1:i < n):∃ ad A0 c0,A=some ad∧w.cell? (ad.add i.toNat)=some (.slice A0 (rd_L2 xs i).length c0)∧(rd_L2 xs i).length≤c0∧k42.C w A0 (rd_L2 xs i).length (rd_L2 xs i):=by
  obtain⟨ad,c,e,_,hK,hc0⟩:=Kd.C_get h ([]:List S42) i h0 h1;have hc:∀ j u,c[j]?=some u→w.cell? (ad.add (i.toNat * 1+j))=some u:=hc0;obtain⟨A0,c0,rfl,l0,g0⟩:=hK;exact⟨ad,A0,c0,e,by have hq:=hc 0 _ rfl;rwa [Nat.mul_one,Nat.add_zero]at hq,l0,g0⟩

/-! #### struct type 133 -/
structure S133 where
  f0:Int
  f1:(List S42)
def z133:S133:=⟨(0:Int),([]:List S42)⟩
def k133:Kd S133:=Kd.iso (Kd.pair (Kd.int .i64) (Kd.slice 42 k42)) (fun x:S133=>(x.f0,x.f1))
theorem k133_heap:Kd.Heap k133:=Kd.heap_iso _ (Kd.heap_pair (Kd.heap_int .i64) (Kd.heap_slice 42 k42_heap))
theorem k133_open {w:World} {x:S133} {cs:List Value} (h:k133.K w x cs):∃ A1 c1,cs=[.int .i64 x.f0,.slice A1 x.f1.length c1]∧x.f1.length≤c1∧k42.C w A1 x.f1.length x.f1:=by
  obtain⟨_,_,rfl,rfl,⟨A1,c1,rfl,l1,g1⟩⟩:=h;exact⟨A1,c1,rfl,l1,g1⟩
theorem k133_openM {w:World} {base:Nat} {ok:Nat→Prop} {x:S133} {cs:List Value} (h:k133.M w base ok x cs):∃ v1,cs=[.int .i64 x.f0,v1]∧k42.R 42 w base ok v1 x.f1:=by
  obtain⟨_,_,rfl,rfl,⟨v1,rfl,g1⟩⟩:=h;exact⟨v1,rfl,g1⟩
theorem k133_mk (w:World) (x:S133) {A1:Option Addr} {c1:Nat} (l1:x.f1.length≤c1) (g1:k42.C w A1 x.f1.length x.f1):k133.K w x [.int .i64 x.f0,.slice A1 x.f1.length c1]:=⟨[.int .i64 x.f0],[.slice A1 x.f1.length c1],rfl,rfl,⟨A1,c1,rfl,l1,g1⟩⟩
theorem k133_mkM (w:World) (base:Nat) (ok:Nat→Prop) (x:S133) {v1:Value} (g1:k42.R 42 w base ok v1 x.f1):k133.M w base ok x [.int .i64 x.f0,v1]:=⟨[.int .i64 x.f0],[v1],rfl,rfl,⟨v1,rfl,g1⟩⟩
theorem k133_openF {W:World} {ok:Nat→Prop} {x:S133} {cs:List Value} (h:Kd.FK k133 W ok x cs):∃ A1 c1,cs=[.int .i64 x.f0,.slice A1 x.f1.length c1]∧x.f1.length≤c1∧Kd.F k42 W ok A1 x.f1.length x.f1:=by
  obtain⟨A1,c1,rfl,l1,_⟩:=k133_open (Kd.FK_now h);exact⟨A1,c1,rfl,l1,(fun W' hW=>by obtain⟨A1_,c1_,he,l1_,g1_⟩:=k133_open (h W' hW);injection (Option.some.inj (show some (Value.slice A1 x.f1.length c1)=some (Value.slice A1_ x.f1.length c1_)from congrArg (fun l=>l[1]?) he))with ha_ _ _;rw [ha_];exact g1_)⟩
theorem k133_mkF (W:World) (ok:Nat→Prop) (x:S133) {A1:Option Addr} {c1:Nat} (l1:x.f1.length≤c1) (g1:Kd.F k42 W ok A1 x.f1.length x.f1):Kd.FK k133 W ok x [.int .i64 x.f0,.slice A1 x.f1.length c1]:=fun W2 hW=>k133_mk W2 x l1 (g1 W2 hW)
def rd_T133 (xs:List S133) (i:Int):S133:=xs.getD i.toNat z133
theorem at_T133 {w:World} {A:Option Addr} {n:Nat} {xs:List S133} (h:Kd.C k133 w A n xs) (i:Int) (h0:0≤i) (h1:i < n):∃ ad A1 c1,A=some ad∧w.cell? (ad.add (i.toNat * 2))=some (.int .i64 (rd_T133 xs i).f0)∧w.cell? ⟨(ad.add (i.toNat * 2)).block,(ad.add (i.toNat * 2)).off+1,none⟩=some (.slice A1 (rd_T133 xs i).f1.length c1)∧(rd_T133 xs i).f1.length≤c1∧k42.C w A1 (rd_T133 xs i).f1.length (rd_T133 xs i).f1:=by
  obtain⟨ad,c,e,_,hK,hc0⟩:=Kd.C_get h z133 i h0 h1;have hc:∀ j u,c[j]?=some u→w.cell? (ad.add (i.toNat * 2+j))=some u:=hc0;obtain⟨A1,c1,rfl,l1,g1⟩:=k133_open hK;exact⟨ad,A1,c1,e,hc 0 _ rfl,by rw [← add_field _ _ 1 (by omega)];exact hc 1 _ rfl,l1,g1⟩

/-! #### struct type 52 -/
structure S52 where
  f0:Int
  f1:Int
def z52:S52:=⟨(0:Int),(0:Int)⟩
def k52:Kd S52:=Kd.iso (Kd.pair (Kd.int .i64) (Kd.int .i64)) (fun x:S52=>(x.f0,x.f1))
theorem k52_heap:Kd.Heap k52:=Kd.heap_iso _ (Kd.heap_pair (Kd.heap_int .i64) (Kd.heap_int .i64))
theorem k52_open {w:World} {x:S52} {cs:List Value} (h:k52.K w x cs):cs=[.int .i64 x.f0,.int .i64 x.f1]:=by
  obtain⟨_,_,rfl,rfl,rfl⟩:=h;exact rfl
theorem k52_openM {w:World} {base:Nat} {ok:Nat→Prop} {x:S52} {cs:List Value} (h:k52.M w base ok x cs):cs=[.int .i64 x.f0,.int .i64 x.f1]:=by
  obtain⟨_,_,rfl,rfl,rfl⟩:=h;exact rfl
theorem k52_mk (w:World) (x:S52)  : k52.K w x [.int .i64 x.f0,.int .i64 x.f1]:=⟨[.int .i64 x.f0],[.int .i64 x.f1],rfl,rfl,rfl⟩
theorem k52_mkM (w:World) (base:Nat) (ok:Nat→Prop) (x:S52)  : k52.M w base ok x [.int .i64 x.f0,.int .i64 x.f1]:=⟨[.int .i64 x.f0],[.int .i64 x.f1],rfl,rfl,rfl⟩
theorem k52_mkF (W:World) (ok:Nat→Prop) (x:S52):Kd.FK k52 W ok x [.int .i64 x.f0,.int .i64 x.f1]:=fun W2 _=>k52_mk W2 x
def rd_T52 (xs:List S52) (i:Int):S52:=xs.getD i.toNat z52
theorem at_T52 {w:World} {A:Option Addr} {n:Nat} {xs:List S52} (h:Kd.C k52 w A n xs) (i:Int) (h0:0≤i) (h1:i < n):∃ ad ,A=some ad∧w.cell? (ad.add (i.toNat * 2))=some (.int .i64 (rd_T52 xs i).f0)∧w.cell? ⟨(ad.add (i.toNat * 2)).block,(ad.add (i.toNat * 2)).off+1,none⟩=some (.int .i64 (rd_T52 xs i).f1):=by
  obtain⟨ad,c,e,_,hK,hc0⟩:=Kd.C_get h z52 i h0 h1;have hc:∀ j u,c[j]?=some u→w.cell? (ad.add (i.toNat * 2+j))=some u:=hc0;obtain rfl:=k52_open hK;exact⟨ad,e,hc 0 _ rfl,by rw [← add_field _ _ 1 (by omega)];exact hc 1 _ rfl⟩

def rd_L5 (xs:List (List S52)) (i:Int):(List S52):=xs.getD i.toNat ([]:List S52)
theorem at_L5 {w:World} {A:Option Addr} {n:Nat} {xs:List (List S52)} (h:Kd.C (Kd.slice 52 k52) w A n xs) (i:Int) (h0:0≤i) (h1:i < n):∃ ad A0 c0,A=some ad∧w.cell? (ad.add i.toNat)=some (.slice A0 (rd_L5 xs i).length c0)∧(rd_L5 xs i).length≤c0∧k52.C w A0 (rd_L5 xs i).length (rd_L5 xs i):=by
  obtain⟨ad,c,e,_,hK,hc0⟩:=Kd.C_get h ([]:List S52) i h0 h1;have hc:∀ j u,c[j]?=some u→w.cell? (ad.add (i.toNat * 1+j))=some u:=hc0;obtain⟨A0,c0,rfl,l0,g0⟩:=hK;exact⟨ad,A0,c0,e,by have hq:=hc 0 _ rfl;rwa [Nat.mul_one,Nat.add_zero]at hq,l0,g0⟩

/-! #### struct type 80 -/
structure S80 where
  f0:Int
  f1:(List S52)
def z80:S80:=⟨(0:Int),([]:List S52)⟩
def k80:Kd S80:=Kd.iso (Kd.pair (Kd.int .i64) (Kd.slice 52 k52)) (fun x:S80=>(x.f0,x.f1))
theorem k80_heap:Kd.Heap k80:=Kd.heap_iso _ (Kd.heap_pair (Kd.heap_int .i64) (Kd.heap_slice 52 k52_heap))
theorem k80_open {w:World} {x:S80} {cs:List Value} (h:k80.K w x cs):∃ A1 c1,cs=[.int .i64 x.f0,.slice A1 x.f1.length c1]∧x.f1.length≤c1∧k52.C w A1 x.f1.length x.f1:=by
  obtain⟨_,_,rfl,rfl,⟨A1,c1,rfl,l1,g1⟩⟩:=h;exact⟨A1,c1,rfl,l1,g1⟩
theorem k80_openM {w:World} {base:Nat} {ok:Nat→Prop} {x:S80} {cs:List Value} (h:k80.M w base ok x cs):∃ v1,cs=[.int .i64 x.f0,v1]∧k52.R 52 w base ok v1 x.f1:=by
  obtain⟨_,_,rfl,rfl,⟨v1,rfl,g1⟩⟩:=h;exact⟨v1,rfl,g1⟩
theorem k80_mk (w:World) (x:S80) {A1:Option Addr} {c1:Nat} (l1:x.f1.length≤c1) (g1:k52.C w A1 x.f1.length x.f1):k80.K w x [.int .i64 x.f0,.slice A1 x.f1.length c1]:=⟨[.int .i64 x.f0],[.slice A1 x.f1.length c1],rfl,rfl,⟨A1,c1,rfl,l1,g1⟩⟩
theorem k80_mkM (w:World) (base:Nat) (ok:Nat→Prop) (x:S80) {v1:Value} (g1:k52.R 52 w base ok v1 x.f1):k80.M w base ok x [.int .i64 x.f0,v1]:=⟨[.int .i64 x.f0],[v1],rfl,rfl,⟨v1,rfl,g1⟩⟩
theorem k80_openF {W:World} {ok:Nat→Prop} {x:S80} {cs:List Value} (h:Kd.FK k80 W ok x cs):∃ A1 c1,cs=[.int .i64 x.f0,.slice A1 x.f1.length c1]∧x.f1.length≤c1∧Kd.F k52 W ok A1 x.f1.length x.f1:=by
  obtain⟨A1,c1,rfl,l1,_⟩:=k80_open (Kd.FK_now h);exact⟨A1,c1,rfl,l1,(fun W' hW=>by obtain⟨A1_,c1_,he,l1_,g1_⟩:=k80_open (h W' hW);injection (Option.some.inj (show some (Value.slice A1 x.f1.length c1)=some (Value.slice A1_ x.f1.length c1_)from congrArg (fun l=>l[1]?) he))with ha_ _ _;rw [ha_];exact g1_)⟩
theorem k80_mkF (W:World) (ok:Nat→Prop) (x:S80) {A1:Option Addr} {c1:Nat} (l1:x.f1.length≤c1) (g1:Kd.F k52 W ok A1 x.f1.length x.f1):Kd.FK k80 W ok x [.int .i64 x.f0,.slice A1 x.f1.length c1]:=fun W2 hW=>k80_mk W2 x l1 (g1 W2 hW)
def rd_T80 (xs:List S80) (i:Int):S80:=xs.getD i.toNat z80
theorem at_T80 {w:World} {A:Option Addr} {n:Nat} {xs:List S80} (h:Kd.C k80 w A n xs) (i:Int) (h0:0≤i) (h1:i < n):∃ ad A1 c1,A=some ad∧w.cell? (ad.add (i.toNat * 2))=some (.int .i64 (rd_T80 xs i).f0)∧w.cell? ⟨(ad.add (i.toNat * 2)).block,(ad.add (i.toNat * 2)).off+1,none⟩=some (.slice A1 (rd_T80 xs i).f1.length c1)∧(rd_T80 xs i).f1.length≤c1∧k52.C w A1 (rd_T80 xs i).f1.length (rd_T80 xs i).f1:=by
  obtain⟨ad,c,e,_,hK,hc0⟩:=Kd.C_get h z80 i h0 h1;have hc:∀ j u,c[j]?=some u→w.cell? (ad.add (i.toNat * 2+j))=some u:=hc0;obtain⟨A1,c1,rfl,l1,g1⟩:=k80_open hK;exact⟨ad,A1,c1,e,hc 0 _ rfl,by rw [← add_field _ _ 1 (by omega)];exact hc 1 _ rfl,l1,g1⟩

/-! #### struct type 37 -/
structure S37 where
  f0:Int
  f1:Int
  f2:Int
  f3:Int
  f4:Bool
def z37:S37:=⟨(0:Int),(0:Int),(0:Int),(0:Int),false⟩
def k37:Kd S37:=Kd.iso (Kd.pair (Kd.int .i64) (Kd.pair (Kd.int .i64) (Kd.pair (Kd.int .i64) (Kd.pair (Kd.int .i64) Kd.bool)))) (fun x:S37=>(x.f0,x.f1,x.f2,x.f3,x.f4))
theorem k37_heap:Kd.Heap k37:=Kd.heap_iso _ (Kd.heap_pair (Kd.heap_int .i64) (Kd.heap_pair (Kd.heap_int .i64) (Kd.heap_pair (Kd.heap_int .i64) (Kd.heap_pair (Kd.heap_int .i64) Kd.heap_bool))))
theorem k37_open {w:World} {x:S37} {cs:List Value} (h:k37.K w x cs):cs=[.int .i64 x.f0,.int .i64 x.f1,.int .i64 x.f2,.int .i64 x.f3,.bool x.f4]:=by
  obtain⟨_,_,rfl,rfl,⟨_,_,rfl,rfl,⟨_,_,rfl,rfl,⟨_,_,rfl,rfl,rfl⟩⟩⟩⟩:=h;exact rfl
theorem k37_openM {w:World} {base:Nat} {ok:Nat→Prop} {x:S37} {cs:List Value} (h:k37.M w base ok x cs):cs=[.int .i64 x.f0,.int .i64 x.f1,.int .i64 x.f2,.int .i64 x.f3,.bool x.f4]:=by
  obtain⟨_,_,rfl,rfl,⟨_,_,rfl,rfl,⟨_,_,rfl,rfl,⟨_,_,rfl,rfl,rfl⟩⟩⟩⟩:=h;exact rfl
theorem k37_mk (w:World) (x:S37)  : k37.K w x [.int .i64 x.f0,.int .i64 x.f1,.int .i64 x.f2,.int .i64 x.f3,.bool x.f4]:=⟨[.int .i64 x.f0],[.int .i64 x.f1,.int .i64 x.f2,.int .i64 x.f3,.bool x.f4],rfl,rfl,⟨[.int .i64 x.f1],[.int .i64 x.f2,.int .i64 x.f3,.bool x.f4],rfl,rfl,⟨[.int .i64 x.f2],[.int .i64 x.f3,.bool x.f4],rfl,rfl,⟨[.int .i64 x.f3],[.bool x.f4],rfl,rfl,rfl⟩⟩⟩⟩
theorem k37_mkM (w:World) (base:Nat) (ok:Nat→Prop) (x:S37)  : k37.M w base ok x [.int .i64 x.f0,.int .i64 x.f1,.int .i64 x.f2,.int .i64 x.f3,.bool x.f4]:=⟨[.int .i64 x.f0],[.int .i64 x.f1,.int .i64 x.f2,.int .i64 x.f3,.bool x.f4],rfl,rfl,⟨[.int .i64 x.f1],[.int .i64 x.f2,.int .i64 x.f3,.bool x.f4],rfl,rfl,⟨[.int .i64 x.f2],[.int .i64 x.f3,.bool x.f4],rfl,rfl,⟨[.int .i64 x.f3],[.bool x.f4],rfl,rfl,rfl⟩⟩⟩⟩
theorem k37_mkF (W:World) (ok:Nat→Prop) (x:S37):Kd.FK k37 W ok x [.int .i64 x.f0,.int .i64 x.f1,.int .i64 x.f2,.int .i64 x.f3,.bool x.f4]:=fun W2 _=>k37_mk W2 x
def rd_T37 (xs:List S37) (i:Int):S37:=xs.getD i.toNat z37
theorem at_T37 {w:World} {A:Option Addr} {n:Nat} {xs:List S37} (h:Kd.C k37 w A n xs) (i:Int) (h0:0≤i) (h1:i < n):∃ ad ,A=some ad∧w.cell? (ad.add (i.toNat * 5))=some (.int .i64 (rd_T37 xs i).f0)∧w.cell? ⟨(ad.add (i.toNat * 5)).block,(ad.add (i.toNat * 5)).off+1,none⟩=some (.int .i64 (rd_T37 xs i).f1)∧w.cell? ⟨(ad.add (i.toNat * 5)).block,(ad.add (i.toNat * 5)).off+2,none⟩=some (.int .i64 (rd_T37 xs i).f2)∧w.cell? ⟨(ad.add (i.toNat * 5)).block,(ad.add (i.toNat * 5)).off+3,none⟩=some (.int .i64 (rd_T37 xs i).f3)∧w.cell? ⟨(ad.add (i.toNat * 5)).block,(ad.add (i.toNat * 5)).off+4,none⟩=some (.bool (rd_T37 xs i).f4):=by
  obtain⟨ad,c,e,_,hK,hc0⟩:=Kd.C_get h z37 i h0 h1;have hc:∀ j u,c[j]?=some u→w.cell? (ad.add (i.toNat * 5+j))=some u:=hc0;obtain rfl:=k37_open hK;exact⟨ad,e,hc 0 _ rfl,by rw [← add_field _ _ 1 (by omega)];exact hc 1 _ rfl,by rw [← add_field _ _ 2 (by omega)];exact hc 2 _ rfl,by rw [← add_field _ _ 3 (by omega)];exact hc 3 _ rfl,by rw [← add_field _ _ 4 (by omega)];exact hc 4 _ rfl⟩

def rd_L9 (xs:List (List S133)) (i:Int):(List S133):=xs.getD i.toNat ([]:List S133)
theorem at_L9 {w:World} {A:Option Addr} {n:Nat} {xs:List (List S133)} (h:Kd.C (Kd.slice 133 k133) w A n xs) (i:Int) (h0:0≤i) (h1:i < n):∃ ad A0 c0,A=some ad∧w.cell? (ad.add i.toNat)=some (.slice A0 (rd_L9 xs i).length c0)∧(rd_L9 xs i).length≤c0∧k133.C w A0 (rd_L9 xs i).length (rd_L9 xs i):=by
  obtain⟨ad,c,e,_,hK,hc0⟩:=Kd.C_get h ([]:List S133) i h0 h1;have hc:∀ j u,c[j]?=some u→w.cell? (ad.add (i.toNat * 1+j))=some u:=hc0;obtain⟨A0,c0,rfl,l0,g0⟩:=hK;exact⟨ad,A0,c0,e,by have hq:=hc 0 _ rfl;rwa [Nat.mul_one,Nat.add_zero]at hq,l0,g0⟩

/-! #### struct type 40 -/
structure S40 where
  f0:S37
  f1:(List S133)
def z40:S40:=⟨z37,([]:List S133)⟩
def k40:Kd S40:=Kd.iso (Kd.pair k37 (Kd.slice 133 k133)) (fun x:S40=>(x.f0,x.f1))
theorem k40_heap:Kd.Heap k40:=Kd.heap_iso _ (Kd.heap_pair k37_heap (Kd.heap_slice 133 k133_heap))
theorem k40_open {w:World} {x:S40} {cs:List Value} (h:k40.K w x cs):∃ A5 c5,cs=[.int .i64 x.f0.f0,.int .i64 x.f0.f1,.int .i64 x.f0.f2,.int .i64 x.f0.f3,.bool x.f0.f4,.slice A5 x.f1.length c5]∧x.f1.length≤c5∧k133.C w A5 x.f1.length x.f1:=by
  obtain⟨_,_,rfl,s0,⟨A5,c5,rfl,l5,g5⟩⟩:=h;obtain rfl:=k37_open s0;exact⟨A5,c5,rfl,l5,g5⟩
theorem k40_openM {w:World} {base:Nat} {ok:Nat→Prop} {x:S40} {cs:List Value} (h:k40.M w base ok x cs):∃ v5,cs=[.int .i64 x.f0.f0,.int .i64 x.f0.f1,.int .i64 x.f0.f2,.int .i64 x.f0.f3,.bool x.f0.f4,v5]∧k133.R 133 w base ok v5 x.f1:=by
  obtain⟨_,_,rfl,s0,⟨v5,rfl,g5⟩⟩:=h;obtain rfl:=k37_openM s0;exact⟨v5,rfl,g5⟩
theorem k40_mk (w:World) (x:S40) {A5:Option Addr} {c5:Nat} (l5:x.f1.length≤c5) (g5:k133.C w A5 x.f1.length x.f1):k40.K w x [.int .i64 x.f0.f0,.int .i64 x.f0.f1,.int .i64 x.f0.f2,.int .i64 x.f0.f3,.bool x.f0.f4,.slice A5 x.f1.length c5]:=⟨[.int .i64 x.f0.f0,.int .i64 x.f0.f1,.int .i64 x.f0.f2,.int .i64 x.f0.f3,.bool x.f0.f4],[.slice A5 x.f1.length c5],rfl,(k37_mk w x.f0 ),⟨A5,c5,rfl,l5,g5⟩⟩
theorem k40_mkM (w:World) (base:Nat) (ok:Nat→Prop) (x:S40) {v5:Value} (g5:k133.R 133 w base ok v5 x.f1):k40.M w base ok x [.int .i64 x.f0.f0,.int .i64 x.f0.f1,.int .i64 x.f0.f2,.int .i64 x.f0.f3,.bool x.f0.f4,v5]:=⟨[.int .i64 x.f0.f0,.int .i64 x.f0.f1,.int .i64 x.f0.f2,.int .i64 x.f0.f3,.bool x.f0.f4],[v5],rfl,(k37_mkM w base ok x.f0 ),⟨v5,rfl,g5⟩⟩
theorem k40_openF {W:World} {ok:Nat→Prop} {x:S40} {cs:List Value} (h:Kd.FK k40 W ok x cs):∃ A5 c5,cs=[.int .i64 x.f0.f0,.int .i64 x.f0.f1,.int .i64 x.f0.f2,.int .i64 x.f0.f3,.bool x.f0.f4,.slice A5 x.f1.length c5]∧x.f1.length≤c5∧Kd.F k133 W ok A5 x.f1.length x.f1:=by
  obtain⟨A5,c5,rfl,l5,_⟩:=k40_open (Kd.FK_now h);exact⟨A5,c5,rfl,l5,(fun W' hW=>by obtain⟨A5_,c5_,he,l5_,g5_⟩:=k40_open (h W' hW);injection (Option.some.inj (show some (Value.slice A5 x.f1.length c5)=some (Value.slice A5_ x.f1.length c5_)from congrArg (fun l=>l[5]?) he))with ha_ _ _;rw [ha_];exact g5_)⟩
theorem k40_mkF (W:World) (ok:Nat→Prop) (x:S40) {A5:Option Addr} {c5:Nat} (l5:x.f1.length≤c5) (g5:Kd.F k133 W ok A5 x.f1.length x.f1):Kd.FK k40 W ok x [.int .i64 x.f0.f0,.int .i64 x.f0.f1,.int .i64 x.f0.f2,.int .i64 x.f0.f3,.bool x.f0.f4,.slice A5 x.f1.length c5]:=fun W2 hW=>k40_mk W2 x l5 (g5 W2 hW)
def rd_T40 (xs:List S40) (i:Int):S40:=xs.getD i.toNat z40
theorem at_T40 {w:World} {A:Option Addr} {n:Nat} {xs:List S40} (h:Kd.C k40 w A n xs) (i:Int) (h0:0≤i) (h1:i < n):∃ ad A5 c5,A=some ad∧w.cell? (ad.add (i.toNat * 6))=some (.int .i64 (rd_T40 xs i).f0.f0)∧w.cell? ⟨(ad.add (i.toNat * 6)).block,(ad.add (i.toNat * 6)).off+1,none⟩=some (.int .i64 (rd_T40 xs i).f0.f1)∧w.cell? ⟨(ad.add (i.toNat * 6)).block,(ad.add (i.toNat * 6)).off+2,none⟩=some (.int .i64 (rd_T40 xs i).f0.f2)∧w.cell? ⟨(ad.add (i.toNat * 6)).block,(ad.add (i.toNat * 6)).off+3,none⟩=some (.int .i64 (rd_T40 xs i).f0.f3)∧w.cell? ⟨(ad.add (i.toNat * 6)).block,(ad.add (i.toNat * 6)).off+4,none⟩=some (.bool (rd_T40 xs i).f0.f4)∧w.cell? ⟨(ad.add (i.toNat * 6)).block,(ad.add (i.toNat * 6)).off+5,none⟩=some (.slice A5 (rd_T40 xs i).f1.length c5)∧(rd_T40 xs i).f1.length≤c5∧k133.C w A5 (rd_T40 xs i).f1.length (rd_T40 xs i).f1:=by
  obtain⟨ad,c,e,_,hK,hc0⟩:=Kd.C_get h z40 i h0 h1;have hc:∀ j u,c[j]?=some u→w.cell? (ad.add (i.toNat * 6+j))=some u:=hc0;obtain⟨A5,c5,rfl,l5,g5⟩:=k40_open hK;exact⟨ad,A5,c5,e,hc 0 _ rfl,by rw [← add_field _ _ 1 (by omega)];exact hc 1 _ rfl,by rw [← add_field _ _ 2 (by omega)];exact hc 2 _ rfl,by rw [← add_field _ _ 3 (by omega)];exact hc 3 _ rfl,by rw [← add_field _ _ 4 (by omega)];exact hc 4 _ rfl,by rw [← add_field _ _ 5 (by omega)];exact hc 5 _ rfl,l5,g5⟩

end Go.Proofs.Ytnklakficjpmoaa.PFnExactBufClear
