/- Of a text of ours what this claim needs. -/
import Derived.Test.YtjdpdkdhfnpcgaaGreatDoorProg
import Derived.Below
import Derived.Deep.Draws
import Derived.Deep.AppendLies
import Derived.Maps.AppendAt
import Derived.OwnWalk
import Derived.Laws.BytesArg
import Derived.Laws.MakeOwn
import Derived.Laws.OwnMore
import Derived.Deep.OwnRows
import Derived.Tactics
import Derived.Lib.ConvBytes
import Derived.Laws.Slices
import Derived.WalkKit
import Derived.KernelRfl
import Derived.RowKit3
import Derived.Deep.LoopGhost
import Derived.Deep.QuietTactic
import Derived.BigQuiet
import Derived.WideLaws
import Derived.Deep.DeepCutAuto
import Derived.Deep.CutBlock
import Derived.Deep.RegionHeld3
import Derived.Laws.Rows
import Derived.Lib.AppendStr
import Derived.ArgAppend
import Derived.Laws.IdiomCopy
import Derived.OrdersHeld
import Derived.Laws.BitsLemmas
import Derived.RowKit
import Derived.Test.YtjdpdkdhfnpcgaaGreatDoorZzFnExactNotePutWWWords
import Derived.Test.YtjdpdkdhfnpcgaaGreatDoorZzFnExactNotePutWWLast
import Derived.Test.YtjdpdkdhfnpcgaaGreatDoorZzFnExactNotePutWWTab
import Derived.Test.YtjdpdkdhfnpcgaaGreatDoorZzFnExactNotePutWWApart
import Derived.Test.YtjdpdkdhfnpcgaaGreatDoorZzFnExactNotePutWWFoot
import Derived.Test.YtjdpdkdhfnpcgaaGreatDoorZzFnExactNotePutWWKept
import Derived.Test.YtjdpdkdhfnpcgaaGreatDoorZzFnExactNotePutWWShare
import Derived.Test.YtjdpdkdhfnpcgaaGreatDoorZzFnExactNotePutWWN
import Derived.Test.YtjdpdkdhfnpcgaaGreatDoorZzFnExactNotePutWWEqStruct
import Derived.Test.YtjdpdkdhfnpcgaaGreatDoorZzFnExactNotePutWWRepsOne
import Derived.Test.YtjdpdkdhfnpcgaaGreatDoorZzFnExactNotePutWWGuard
import Derived.Test.YtjdpdkdhfnpcgaaGreatDoorZzFnExactNotePutWWMore
namespace Go.Proofs.YtjdpdkdhfnpcgaaGreatDoor.Q
open Go.RowKit Go.Proofs.YtjdpdkdhfnpcgaaGreatDoorW.PrintWords Go.Proofs.YtjdpdkdhfnpcgaaGreatDoorW.PrintLast Go.Proofs.YtjdpdkdhfnpcgaaGreatDoorW.PrintMore
attribute [local go_sem] max2_int min2_int max_two min_two max_three min_three max_four min_four
set_option linter.unusedVariables false
set_option linter.unusedSimpArgs false
def errW:Option Int→Value
  | none=>.nilIface
  | some c=>.iface 0 (.int .i64 c)
theorem errW_none:errW none=.nilIface:=rfl
theorem errW_some (c:Int):errW (some c)=.iface 0 (.int .i64 c):=rfl
theorem info9:(Tryz.prog.info? 9).map (fun i=>(i.zero,i.size,i.bytes))=some (some (.string ⟨#[]⟩),1,16):=by kernel_rfl
theorem info24:(Tryz.prog.info? 24).map (fun i=>(i.zero,i.size,i.bytes))=some (some (.agg #[(.string ⟨#[]⟩),(.string ⟨#[]⟩)]),2,32):=by kernel_rfl
structure S41 where
  f0:ByteArray
  f1:ByteArray
def z41:S41:=⟨(⟨#[]⟩:ByteArray),(⟨#[]⟩:ByteArray)⟩
def k41:Kd S41:=Kd.iso (Kd.pair Kd.string Kd.string) (fun x:S41=>(x.f0,x.f1))
theorem k41_open {w:World} {x:S41} {cs:List Value} (h:k41.K w x cs):cs=[.string x.f0,.string x.f1]:=by
  obtain ⟨_,_,rfl,rfl,rfl⟩:=h
  exact rfl
theorem k41_mk (w:World) (x:S41) :k41.K w x [.string x.f0,.string x.f1]:=⟨[.string x.f0],[.string x.f1],rfl,rfl,rfl⟩
def rd_T41 (xs:List S41) (i:Int):S41:=xs.getD i.toNat z41
theorem at_T41 {w:World} {A:Option Addr} {n:Nat} {xs:List S41} (h:Kd.C k41 w A n xs) (i:Int) (h0:0≤i) (h1:i < n):∃ ad,A=some ad∧w.cell? (ad.add (i.toNat * 2))=some (.string (rd_T41 xs i).f0)∧w.cell? ⟨(ad.add (i.toNat * 2)).block,(ad.add (i.toNat * 2)).off+1,none⟩=some (.string (rd_T41 xs i).f1):=by
  obtain ⟨ad,c,e,_,hK,hc0⟩:=Kd.C_get h z41 i h0 h1
  have hc:∀ j u,c[j]?=some u→w.cell? (ad.add (i.toNat * 2+j))=some u:=hc0
  obtain rfl:=k41_open hK
  exact ⟨ad,e,hc 0 _ rfl,by rw [← add_field _ _ 1 (by omega)];exact hc 1 _ rfl⟩
structure S24 where
  f0:ByteArray
  f1:ByteArray
def z24:S24:=⟨(⟨#[]⟩:ByteArray),(⟨#[]⟩:ByteArray)⟩
def k24:Kd S24:=Kd.iso (Kd.pair Kd.string Kd.string) (fun x:S24=>(x.f0,x.f1))
theorem k24_open {w:World} {x:S24} {cs:List Value} (h:k24.K w x cs):cs=[.string x.f0,.string x.f1]:=by
  obtain ⟨_,_,rfl,rfl,rfl⟩:=h
  exact rfl
theorem k24_openM {w:World} {base:Nat} {ok:Nat→Prop} {x:S24} {cs:List Value} (h:k24.M w base ok x cs):cs=[.string x.f0,.string x.f1]:=by
  obtain ⟨_,_,rfl,rfl,rfl⟩:=h
  exact rfl
theorem k24_mkM (w:World) (base:Nat) (ok:Nat→Prop) (x:S24) :k24.M w base ok x [.string x.f0,.string x.f1]:=⟨[.string x.f0],[.string x.f1],rfl,rfl,rfl⟩
def rd_T24 (xs:List S24) (i:Int):S24:=xs.getD i.toNat z24
theorem at_T24 {w:World} {A:Option Addr} {n:Nat} {xs:List S24} (h:Kd.C k24 w A n xs) (i:Int) (h0:0≤i) (h1:i < n):∃ ad,A=some ad∧w.cell? (ad.add (i.toNat * 2))=some (.string (rd_T24 xs i).f0)∧w.cell? ⟨(ad.add (i.toNat * 2)).block,(ad.add (i.toNat * 2)).off+1,none⟩=some (.string (rd_T24 xs i).f1):=by
  obtain ⟨ad,c,e,_,hK,hc0⟩:=Kd.C_get h z24 i h0 h1
  have hc:∀ j u,c[j]?=some u→w.cell? (ad.add (i.toNat * 2+j))=some u:=hc0
  obtain rfl:=k24_open hK
  exact ⟨ad,e,hc 0 _ rfl,by rw [← add_field _ _ 1 (by omega)];exact hc 1 _ rfl⟩
theorem sz1 (a0:UInt8):(⟨#[a0]⟩:ByteArray).size=1:=rfl
theorem sz2 (a0 a1:UInt8):(⟨#[a0,a1]⟩:ByteArray).size=2:=rfl
theorem sz3 (a0 a1 a2:UInt8):(⟨#[a0,a1,a2]⟩:ByteArray).size=3:=rfl
theorem sz4 (a0 a1 a2 a3:UInt8):(⟨#[a0,a1,a2,a3]⟩:ByteArray).size=4:=rfl
theorem sz5 (a0 a1 a2 a3 a4:UInt8):(⟨#[a0,a1,a2,a3,a4]⟩:ByteArray).size=5:=rfl
theorem sz6 (a0 a1 a2 a3 a4 a5:UInt8):(⟨#[a0,a1,a2,a3,a4,a5]⟩:ByteArray).size=6:=rfl
theorem sz7 (a0 a1 a2 a3 a4 a5 a6:UInt8):(⟨#[a0,a1,a2,a3,a4,a5,a6]⟩:ByteArray).size=7:=rfl
theorem sz8 (a0 a1 a2 a3 a4 a5 a6 a7:UInt8):(⟨#[a0,a1,a2,a3,a4,a5,a6,a7]⟩:ByteArray).size=8:=rfl
end Go.Proofs.YtjdpdkdhfnpcgaaGreatDoor.Q
