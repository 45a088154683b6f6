/- Of a text of ours what this claim needs. -/
import Derived.Test.YthkibaldmjfmmaaDoorProg
import Derived.Below
import Derived.Deep.Draws
import Derived.Deep.AppendLies
import Derived.Maps.AppendAt
import Derived.OwnWalk
import Derived.Laws.BytesArg
import Derived.Laws.MakeOwn
import Derived.Laws.OwnMore
import Derived.Deep.OwnRows
import Derived.Tactics
import Derived.Lib.ConvBytes
import Derived.Laws.Slices
import Derived.WalkKit
import Derived.KernelRfl
import Derived.RowKit3
import Derived.Deep.LoopGhost
import Derived.Deep.QuietTactic
import Derived.BigQuiet
import Derived.WideLaws
import Derived.Deep.DeepCutAuto
import Derived.Deep.CutBlock
import Derived.Deep.RegionHeld3
import Derived.Laws.Rows
import Derived.Lib.AppendStr
import Derived.ArgAppend
import Derived.Laws.IdiomCopy
import Derived.OrdersHeld
import Derived.Laws.BitsLemmas
import Derived.RowKit
import Derived.Test.YthkibaldmjfmmaaDoorZzFnExactConfTakesWWWords
import Derived.Test.YthkibaldmjfmmaaDoorZzFnExactConfTakesWWLast
import Derived.Test.YthkibaldmjfmmaaDoorZzFnExactConfTakesWWTab
import Derived.Test.YthkibaldmjfmmaaDoorZzFnExactConfTakesWWApart
import Derived.Test.YthkibaldmjfmmaaDoorZzFnExactConfTakesWWFoot
import Derived.Test.YthkibaldmjfmmaaDoorZzFnExactConfTakesWWKept
import Derived.Test.YthkibaldmjfmmaaDoorZzFnExactConfTakesWWShare
import Derived.Test.YthkibaldmjfmmaaDoorZzFnExactConfTakesWWN
import Derived.Test.YthkibaldmjfmmaaDoorZzFnExactConfTakesWWEqStruct
import Derived.Test.YthkibaldmjfmmaaDoorZzFnExactConfTakesWWGuard
import Derived.Test.YthkibaldmjfmmaaDoorZzFnExactConfTakesWWMore
namespace Go.Proofs.YthkibaldmjfmmaaDoor.Q
open Go.RowKit Go.Proofs.YthkibaldmjfmmaaDoorW.PrintWords Go.Proofs.YthkibaldmjfmmaaDoorW.PrintLast Go.Proofs.YthkibaldmjfmmaaDoorW.PrintMore
attribute [local go_sem] max2_int min2_int max_two min_two max_three min_three max_four min_four
set_option linter.unusedVariables false
set_option linter.unusedSimpArgs false
def errW:Option Int→Value
  | none=>.nilIface
  | some c=>.iface 0 (.int .i64 c)
theorem errW_none:errW none=.nilIface:=rfl
theorem errW_some (c:Int):errW (some c)=.iface 0 (.int .i64 c):=rfl
theorem info9:(Tryd.prog.info? 9).map (fun i=>(i.zero,i.size,i.bytes))=some (some (.string ⟨#[]⟩),1,16):=by kernel_rfl
theorem info117:(Tryd.prog.info? 117).map (fun i=>(i.zero,i.size,i.bytes))=some (some (.agg #[(.string ⟨#[]⟩),(.string ⟨#[]⟩)]),2,32):=by kernel_rfl
structure S116 where
  f0:ByteArray
  f1:ByteArray
def z116:S116:=⟨(⟨#[]⟩:ByteArray),(⟨#[]⟩:ByteArray)⟩
def k116:Kd S116:=Kd.iso (Kd.pair Kd.string Kd.string) (fun x:S116=>(x.f0,x.f1))
theorem k116_open {w:World} {x:S116} {cs:List Value} (h:k116.K w x cs):cs=[.string x.f0,.string x.f1]:=by
  obtain ⟨_,_,rfl,rfl,rfl⟩:=h
  exact rfl
theorem k116_mk (w:World) (x:S116) :k116.K w x [.string x.f0,.string x.f1]:=⟨[.string x.f0],[.string x.f1],rfl,rfl,rfl⟩
def rd_T116 (xs:List S116) (i:Int):S116:=xs.getD i.toNat z116
theorem at_T116 {w:World} {A:Option Addr} {n:Nat} {xs:List S116} (h:Kd.C k116 w A n xs) (i:Int) (h0:0≤i) (h1:i < n):∃ ad,A=some ad∧w.cell? (ad.add (i.toNat * 2))=some (.string (rd_T116 xs i).f0)∧w.cell? ⟨(ad.add (i.toNat * 2)).block,(ad.add (i.toNat * 2)).off+1,none⟩=some (.string (rd_T116 xs i).f1):=by
  obtain ⟨ad,c,e,_,hK,hc0⟩:=Kd.C_get h z116 i h0 h1
  have hc:∀ j u,c[j]?=some u→w.cell? (ad.add (i.toNat * 2+j))=some u:=hc0
  obtain rfl:=k116_open hK
  exact ⟨ad,e,hc 0 _ rfl,by rw [← add_field _ _ 1 (by omega)];exact hc 1 _ rfl⟩
structure S117 where
  f0:ByteArray
  f1:ByteArray
def z117:S117:=⟨(⟨#[]⟩:ByteArray),(⟨#[]⟩:ByteArray)⟩
def k117:Kd S117:=Kd.iso (Kd.pair Kd.string Kd.string) (fun x:S117=>(x.f0,x.f1))
theorem k117_open {w:World} {x:S117} {cs:List Value} (h:k117.K w x cs):cs=[.string x.f0,.string x.f1]:=by
  obtain ⟨_,_,rfl,rfl,rfl⟩:=h
  exact rfl
theorem k117_openM {w:World} {base:Nat} {ok:Nat→Prop} {x:S117} {cs:List Value} (h:k117.M w base ok x cs):cs=[.string x.f0,.string x.f1]:=by
  obtain ⟨_,_,rfl,rfl,rfl⟩:=h
  exact rfl
theorem k117_mkM (w:World) (base:Nat) (ok:Nat→Prop) (x:S117) :k117.M w base ok x [.string x.f0,.string x.f1]:=⟨[.string x.f0],[.string x.f1],rfl,rfl,rfl⟩
def rd_T117 (xs:List S117) (i:Int):S117:=xs.getD i.toNat z117
theorem at_T117 {w:World} {A:Option Addr} {n:Nat} {xs:List S117} (h:Kd.C k117 w A n xs) (i:Int) (h0:0≤i) (h1:i < n):∃ ad,A=some ad∧w.cell? (ad.add (i.toNat * 2))=some (.string (rd_T117 xs i).f0)∧w.cell? ⟨(ad.add (i.toNat * 2)).block,(ad.add (i.toNat * 2)).off+1,none⟩=some (.string (rd_T117 xs i).f1):=by
  obtain ⟨ad,c,e,_,hK,hc0⟩:=Kd.C_get h z117 i h0 h1
  have hc:∀ j u,c[j]?=some u→w.cell? (ad.add (i.toNat * 2+j))=some u:=hc0
  obtain rfl:=k117_open hK
  exact ⟨ad,e,hc 0 _ rfl,by rw [← add_field _ _ 1 (by omega)];exact hc 1 _ rfl⟩
end Go.Proofs.YthkibaldmjfmmaaDoor.Q
