-- printed by a program of this session (wip/printx) out of the translation; Lean checks it
import Derived.Test.YtppmbdfbhahngaaVFnPickFirst
import Derived.Test.YtppmbdfbhahngaaProg
import Derived.Below
import Derived.Deep.Draws
import Derived.Deep.AppendLies
import Derived.Maps.AppendAt
import Derived.OwnWalk
import Derived.Laws.BytesArg
import Derived.Laws.MakeOwn
import Derived.Laws.OwnMore
import Derived.Deep.OwnRows
import Derived.Tactics
import Derived.Lib.ConvBytes
import Derived.Laws.Slices
import Derived.WalkKit
import Derived.KernelRfl
import Derived.RowKit3
import Derived.Deep.LoopGhost
import Derived.Deep.QuietTactic
import Derived.BigQuiet
import Derived.WideLaws
import Derived.Deep.DeepCutAuto
import Derived.Deep.CutBlock
import Derived.Deep.RegionHeld3
import Derived.Laws.Rows
import Derived.Lib.AppendStr
import Derived.ArgAppend
import Derived.Laws.IdiomCopy
import Derived.OrdersHeld
import Derived.Laws.BitsLemmas
import Derived.RowKit
import Derived.WalkSpells
import Derived.Maps.Own
import Derived.Maps.Views
namespace Go.Proofs.Ytppmbdfbhahngaa.PFnPickFirst
open Go.RowKit Go.Proofs.YtppmbdfbhahngaaW.PrintWords Go.Proofs.YtppmbdfbhahngaaW.PrintLast Go.Proofs.YtppmbdfbhahngaaW.PrintMore
attribute [local go_sem] max2_int min2_int max_two min_two max_three min_three max_four min_four   -- for this text's walks alone
set_option linter.unusedVariables false
set_option linter.unusedSimpArgs false



def errW:Option Int→Value
  | none=>.nilIface
  | some c=>.iface 0 (.int .i64 c)
theorem errW_none:errW none=.nilIface:=rfl
theorem errW_some (c:Int):errW (some c)=.iface 0 (.int .i64 c):=rfl
theorem er_ {p:Prop} (h:p:=by first|rfl|(simp [errW_none,errW_some]<;>rfl)|(simp [*,errW_none,errW_some]<;>rfl)):p:=h

theorem info3:(Try.prog.info? 3).map (fun i=>(i.zero,i.size,i.bytes))=some (some (.int .i64 0),1,8):=by kernel_rfl
theorem info46:(Try.prog.info? 46).map (fun i=>(i.zero,i.size,i.bytes))=some (some (.agg #[(.int .i64 0),(.int .i64 0),(.bool false),(.int .i64 0),(.int .i64 0),(.int .i64 0)]),6,48):=by kernel_rfl
-- the values' own types
/-! #### struct type 28 -/
structure S28 where
  f0:Int
  f1:Int
  f2:Int
def z28:S28:=⟨(0:Int),(0:Int),(0:Int)⟩
def k28:Kd S28:=Kd.iso (Kd.pair (Kd.int .i64) (Kd.pair (Kd.int .i64) (Kd.int .i64))) (fun x:S28=>(x.f0,x.f1,x.f2))
theorem k28_open {w:World} {x:S28} {cs:List Value} (h:k28.K w x cs):cs=[.int .i64 x.f0,.int .i64 x.f1,.int .i64 x.f2]:=by
  obtain⟨_,_,rfl,rfl,⟨_,_,rfl,rfl,rfl⟩⟩:=h;exact rfl
theorem k28_openM {w:World} {base:Nat} {ok:Nat→Prop} {x:S28} {cs:List Value} (h:k28.M w base ok x cs):cs=[.int .i64 x.f0,.int .i64 x.f1,.int .i64 x.f2]:=by
  obtain⟨_,_,rfl,rfl,⟨_,_,rfl,rfl,rfl⟩⟩:=h;exact rfl
theorem k28_mk (w:World) (x:S28)  : k28.K w x [.int .i64 x.f0,.int .i64 x.f1,.int .i64 x.f2]:=⟨[.int .i64 x.f0],[.int .i64 x.f1,.int .i64 x.f2],rfl,rfl,⟨[.int .i64 x.f1],[.int .i64 x.f2],rfl,rfl,rfl⟩⟩
theorem k28_mkM (w:World) (base:Nat) (ok:Nat→Prop) (x:S28)  : k28.M w base ok x [.int .i64 x.f0,.int .i64 x.f1,.int .i64 x.f2]:=⟨[.int .i64 x.f0],[.int .i64 x.f1,.int .i64 x.f2],rfl,rfl,⟨[.int .i64 x.f1],[.int .i64 x.f2],rfl,rfl,rfl⟩⟩
def rd_T28 (xs:List S28) (i:Int):S28:=xs.getD i.toNat z28
theorem at_T28 {w:World} {A:Option Addr} {n:Nat} {xs:List S28} (h:Kd.C k28 w A n xs) (i:Int) (h0:0≤i) (h1:i < n):∃ ad ,A=some ad∧w.cell? (ad.add (i.toNat * 3))=some (.int .i64 (rd_T28 xs i).f0)∧w.cell? ⟨(ad.add (i.toNat * 3)).block,(ad.add (i.toNat * 3)).off+1,none⟩=some (.int .i64 (rd_T28 xs i).f1)∧w.cell? ⟨(ad.add (i.toNat * 3)).block,(ad.add (i.toNat * 3)).off+2,none⟩=some (.int .i64 (rd_T28 xs i).f2):=by
  obtain⟨ad,c,e,_,hK,hc0⟩:=Kd.C_get h z28 i h0 h1;have hc:∀ j u,c[j]?=some u→w.cell? (ad.add (i.toNat * 3+j))=some u:=hc0;obtain rfl:=k28_open hK;exact⟨ad,e,hc 0 _ rfl,by rw [← add_field _ _ 1 (by omega)];exact hc 1 _ rfl,by rw [← add_field _ _ 2 (by omega)];exact hc 2 _ rfl⟩

/-! #### struct type 46 -/
structure S46 where
  f0:Int
  f1:Int
  f2:Bool
  f3:S28
def z46:S46:=⟨(0:Int),(0:Int),false,z28⟩
def k46:Kd S46:=Kd.iso (Kd.pair (Kd.int .i64) (Kd.pair (Kd.int .i64) (Kd.pair Kd.bool k28))) (fun x:S46=>(x.f0,x.f1,x.f2,x.f3))
theorem k46_open {w:World} {x:S46} {cs:List Value} (h:k46.K w x cs):cs=[.int .i64 x.f0,.int .i64 x.f1,.bool x.f2,.int .i64 x.f3.f0,.int .i64 x.f3.f1,.int .i64 x.f3.f2]:=by
  obtain⟨_,_,rfl,rfl,⟨_,_,rfl,rfl,⟨_,_,rfl,rfl,s3⟩⟩⟩:=h;obtain rfl:=k28_open s3;exact rfl
theorem k46_openM {w:World} {base:Nat} {ok:Nat→Prop} {x:S46} {cs:List Value} (h:k46.M w base ok x cs):cs=[.int .i64 x.f0,.int .i64 x.f1,.bool x.f2,.int .i64 x.f3.f0,.int .i64 x.f3.f1,.int .i64 x.f3.f2]:=by
  obtain⟨_,_,rfl,rfl,⟨_,_,rfl,rfl,⟨_,_,rfl,rfl,s3⟩⟩⟩:=h;obtain rfl:=k28_openM s3;exact rfl
theorem k46_mk (w:World) (x:S46)  : k46.K w x [.int .i64 x.f0,.int .i64 x.f1,.bool x.f2,.int .i64 x.f3.f0,.int .i64 x.f3.f1,.int .i64 x.f3.f2]:=⟨[.int .i64 x.f0],[.int .i64 x.f1,.bool x.f2,.int .i64 x.f3.f0,.int .i64 x.f3.f1,.int .i64 x.f3.f2],rfl,rfl,⟨[.int .i64 x.f1],[.bool x.f2,.int .i64 x.f3.f0,.int .i64 x.f3.f1,.int .i64 x.f3.f2],rfl,rfl,⟨[.bool x.f2],[.int .i64 x.f3.f0,.int .i64 x.f3.f1,.int .i64 x.f3.f2],rfl,rfl,(k28_mk w x.f3 )⟩⟩⟩
theorem k46_mkM (w:World) (base:Nat) (ok:Nat→Prop) (x:S46)  : k46.M w base ok x [.int .i64 x.f0,.int .i64 x.f1,.bool x.f2,.int .i64 x.f3.f0,.int .i64 x.f3.f1,.int .i64 x.f3.f2]:=⟨[.int .i64 x.f0],[.int .i64 x.f1,.bool x.f2,.int .i64 x.f3.f0,.int .i64 x.f3.f1,.int .i64 x.f3.f2],rfl,rfl,⟨[.int .i64 x.f1],[.bool x.f2,.int .i64 x.f3.f0,.int .i64 x.f3.f1,.int .i64 x.f3.f2],rfl,rfl,⟨[.bool x.f2],[.int .i64 x.f3.f0,.int .i64 x.f3.f1,.int .i64 x.f3.f2],rfl,rfl,(k28_mkM w base ok x.f3 )⟩⟩⟩
def rd_T46 (xs:List S46) (i:Int):S46:=xs.getD i.toNat z46
theorem at_T46 {w:World} {A:Option Addr} {n:Nat} {xs:List S46} (h:Kd.C k46 w A n xs) (i:Int) (h0:0≤i) (h1:i < n):∃ ad ,A=some ad∧w.cell? (ad.add (i.toNat * 6))=some (.int .i64 (rd_T46 xs i).f0)∧w.cell? ⟨(ad.add (i.toNat * 6)).block,(ad.add (i.toNat * 6)).off+1,none⟩=some (.int .i64 (rd_T46 xs i).f1)∧w.cell? ⟨(ad.add (i.toNat * 6)).block,(ad.add (i.toNat * 6)).off+2,none⟩=some (.bool (rd_T46 xs i).f2)∧w.cell? ⟨(ad.add (i.toNat * 6)).block,(ad.add (i.toNat * 6)).off+3,none⟩=some (.int .i64 (rd_T46 xs i).f3.f0)∧w.cell? ⟨(ad.add (i.toNat * 6)).block,(ad.add (i.toNat * 6)).off+4,none⟩=some (.int .i64 (rd_T46 xs i).f3.f1)∧w.cell? ⟨(ad.add (i.toNat * 6)).block,(ad.add (i.toNat * 6)).off+5,none⟩=some (.int .i64 (rd_T46 xs i).f3.f2):=by
  obtain⟨ad,c,e,_,hK,hc0⟩:=Kd.C_get h z46 i h0 h1;have hc:∀ j u,c[j]?=some u→w.cell? (ad.add (i.toNat * 6+j))=some u:=hc0;obtain rfl:=k46_open hK;exact⟨ad,e,hc 0 _ rfl,by rw [← add_field _ _ 1 (by omega)];exact hc 1 _ rfl,by rw [← add_field _ _ 2 (by omega)];exact hc 2 _ rfl,by rw [← add_field _ _ 3 (by omega)];exact hc 3 _ rfl,by rw [← add_field _ _ 4 (by omega)];exact hc 4 _ rfl,by rw [← add_field _ _ 5 (by omega)];exact hc 5 _ rfl⟩

end Go.Proofs.Ytppmbdfbhahngaa.PFnPickFirst
