/- Of a text of ours what this claim needs. -/
import Derived.Test.YthkibaldmjfmmaaGreatDoorProg
import Derived.Below
import Derived.Deep.Draws
import Derived.Deep.AppendLies
import Derived.Maps.AppendAt
import Derived.OwnWalk
import Derived.Laws.BytesArg
import Derived.Laws.MakeOwn
import Derived.Laws.OwnMore
import Derived.Deep.OwnRows
import Derived.Tactics
import Derived.Lib.ConvBytes
import Derived.Laws.Slices
import Derived.WalkKit
import Derived.KernelRfl
import Derived.RowKit3
import Derived.Deep.LoopGhost
import Derived.Deep.QuietTactic
import Derived.BigQuiet
import Derived.WideLaws
import Derived.Deep.DeepCutAuto
import Derived.Deep.CutBlock
import Derived.Deep.RegionHeld3
import Derived.Laws.Rows
import Derived.Lib.AppendStr
import Derived.ArgAppend
import Derived.Laws.IdiomCopy
import Derived.OrdersHeld
import Derived.Laws.BitsLemmas
import Derived.RowKit
import Derived.Test.YthkibaldmjfmmaaGreatDoorZzFnMailGetSWWords
import Derived.Test.YthkibaldmjfmmaaGreatDoorZzFnMailGetSWLast
import Derived.Test.YthkibaldmjfmmaaGreatDoorZzFnMailGetSWTab
import Derived.Test.YthkibaldmjfmmaaGreatDoorZzFnMailGetSWApart
import Derived.Test.YthkibaldmjfmmaaGreatDoorZzFnMailGetSWFoot
import Derived.Test.YthkibaldmjfmmaaGreatDoorZzFnMailGetSWKept
import Derived.Test.YthkibaldmjfmmaaGreatDoorZzFnMailGetSWShare
import Derived.Test.YthkibaldmjfmmaaGreatDoorZzFnMailGetSWN
import Derived.Test.YthkibaldmjfmmaaGreatDoorZzFnMailGetSWEqStruct
import Derived.Test.YthkibaldmjfmmaaGreatDoorZzFnMailGetSWRepsOne
import Derived.Test.YthkibaldmjfmmaaGreatDoorZzFnMailGetSWGuard
import Derived.Test.YthkibaldmjfmmaaGreatDoorZzFnMailGetSWMore
namespace Go.Proofs.YthkibaldmjfmmaaGreatDoor.Q
abbrev bz0 : ByteArray := ⟨#[]⟩
abbrev bz1 : ByteArray := ⟨#[60]⟩
abbrev bz2 : ByteArray := ⟨#[64]⟩
abbrev bz3 : ByteArray := ⟨#[13,10]⟩
abbrev bz4 : ByteArray := ⟨#[46]⟩
abbrev bz5 : ByteArray := ⟨#[62]⟩
abbrev bz6 : ByteArray := ⟨#[32]⟩
abbrev bz7 : ByteArray := ⟨#[102,114,111,109,32]⟩
abbrev bz8 : ByteArray := ⟨#[116,111,32]⟩
abbrev bz9 : ByteArray := ⟨#[13]⟩
abbrev bz10 : ByteArray := ⟨#[10]⟩
abbrev bz11 : ByteArray := ⟨#[48]⟩
abbrev bz12 : ByteArray := ⟨#[46,13,10]⟩
abbrev bz13 : ByteArray := ⟨#[111,110,101,46,111,114,103]⟩
abbrev bz14 : ByteArray := ⟨#[116,119,111,46,111,114,103]⟩
abbrev bz15 : ByteArray := ⟨#[104,117,98,46,110,101,116]⟩
abbrev bz16 : ByteArray := ⟨#[120,46,99,111,109]⟩
abbrev bz17 : ByteArray := ⟨#[102,97,114,46,99,111,109]⟩
abbrev bz18 : ByteArray := ⟨#[111,116,104,101,114,46,99,111,109]⟩
abbrev bz19 : ByteArray := ⟨#[97,46,111,110,101,46,111,114,103]⟩
abbrev bz20 : ByteArray := ⟨#[97]⟩
abbrev bz21 : ByteArray := ⟨#[98]⟩
abbrev bz22 : ByteArray := ⟨#[97,110,110]⟩
abbrev bz23 : ByteArray := ⟨#[98,111,98,55]⟩
abbrev bz24 : ByteArray := ⟨#[104,101,108,108,111]⟩
abbrev bz25 : ByteArray := ⟨#[46,46]⟩
abbrev bz26 : ByteArray := ⟨#[46,100,111,116]⟩
abbrev bz27 : ByteArray := ⟨#[97,32,108,111,110,103,101,114,32,108,105,110,101,32,111,102,32,116,101,120,116]⟩
abbrev bz28 : ByteArray := ⟨#[72,111,112,58,32,111,110,101,46,111,114,103]⟩
abbrev bz29 : ByteArray := ⟨#[72,111,112,58,32]⟩
abbrev bz30 : ByteArray := ⟨#[73,100,58,32,55]⟩
abbrev bz31 : ByteArray := ⟨#[110,111,116,32,100,101,108,105,118,101,114,101,100,58]⟩
abbrev bz32 : ByteArray := ⟨#[60,97,64,111,110,101,46,111,114,103,62]⟩
abbrev bz33 : ByteArray := ⟨#[108,105,110,101,32,116,104,97,116,32,105,115,32,101,120,97,99,116,108,121,32,102,111,114,116,121,32,98,121,116,101,115,32,108,111,110,103,46,46,33]⟩
abbrev bz34 : ByteArray := ⟨#[60,62]⟩
abbrev bz35 : ByteArray := ⟨#[13,10,13,10]⟩
abbrev bz36 : ByteArray := ⟨#[97,98,99,100,101,102,103,104,105,106,107,108,109,110,111,112,113,114,115,116,117,118,119,120,121,122,48,49,50,51,52,53,54,55,56,57]⟩
open Go.RowKit Go.Proofs.YthkibaldmjfmmaaGreatDoorW.PrintWords Go.Proofs.YthkibaldmjfmmaaGreatDoorW.PrintLast Go.Proofs.YthkibaldmjfmmaaGreatDoorW.PrintMore
attribute [local go_sem] max2_int min2_int max_two min_two max_three min_three max_four min_four
set_option linter.unusedVariables false
set_option linter.unusedSimpArgs false
def errW:Option Int→Value
 | none=>.nilIface
 | some c=>.iface 0 (.int .i64 c)
theorem zq11:errW none=.nilIface:=rfl
theorem zq12 (c:Int):errW (some c)=.iface 0 (.int .i64 c):=rfl
theorem info5:(Tryz.prog.info? 5).map (fun i=>(i.zero,i.size,i.bytes))=some (some (.int .u8 0),1,1):=by kernel_rfl
theorem info9:(Tryz.prog.info? 9).map (fun i=>(i.zero,i.size,i.bytes))=some (some (.string ⟨#[]⟩),1,16):=by kernel_rfl
theorem info24:(Tryz.prog.info? 24).map (fun i=>(i.zero,i.size,i.bytes))=some (some (.agg #[(.string ⟨#[]⟩),(.string ⟨#[]⟩)]),2,32):=by kernel_rfl
structure S24 where
 f0:ByteArray
 f1:ByteArray
def z24:S24:=⟨(⟨#[]⟩:ByteArray),(⟨#[]⟩:ByteArray)⟩
def k24:Kd S24:=Kd.iso (Kd.pair Kd.string Kd.string) (fun x:S24=>(x.f0,x.f1))
theorem k24_open {w:World} {x:S24} {cs:List Value} (h:k24.K w x cs):cs=[.string x.f0,.string x.f1]:=by
 obtain ⟨_,_,rfl,rfl,rfl⟩:=h
 exact rfl
theorem k24_mkM (w:World) (base:Nat) (ok:Nat→Prop) (x:S24) :k24.M w base ok x [.string x.f0,.string x.f1]:=⟨[.string x.f0],[.string x.f1],rfl,rfl,rfl⟩
def rd_T24 (xs:List S24) (i:Int):S24:=xs.getD i.toNat z24
theorem at_T24 {w:World} {A:Option Addr} {n:Nat} {xs:List S24} (h:Kd.C k24 w A n xs) (i:Int) (h0:0≤i) (h1:i < n):∃ ad,A=some ad∧w.cell? (ad.add (i.toNat * 2))=some (.string (rd_T24 xs i).f0)∧w.cell? ⟨(ad.add (i.toNat * 2)).block,(ad.add (i.toNat * 2)).off+1,none⟩=some (.string (rd_T24 xs i).f1):=by
 obtain ⟨ad,c,e,_,hK,hc0⟩:=Kd.C_get h z24 i h0 h1
 have hc:∀ j u,c[j]?=some u→w.cell? (ad.add (i.toNat * 2+j))=some u:=hc0
 obtain rfl:=k24_open hK
 exact ⟨ad,e,hc 0 _ rfl,by rw [← add_field _ _ 1 (by omega)];exact hc 1 _ rfl⟩
theorem sz1 (a0:UInt8):(⟨#[a0]⟩:ByteArray).size=1:=rfl
theorem sz2 (a0 a1:UInt8):(⟨#[a0,a1]⟩:ByteArray).size=2:=rfl
theorem sz3 (a0 a1 a2:UInt8):(⟨#[a0,a1,a2]⟩:ByteArray).size=3:=rfl
theorem sz4 (a0 a1 a2 a3:UInt8):(⟨#[a0,a1,a2,a3]⟩:ByteArray).size=4:=rfl
theorem sz5 (a0 a1 a2 a3 a4:UInt8):(⟨#[a0,a1,a2,a3,a4]⟩:ByteArray).size=5:=rfl
theorem sz6 (a0 a1 a2 a3 a4 a5:UInt8):(⟨#[a0,a1,a2,a3,a4,a5]⟩:ByteArray).size=6:=rfl
theorem sz7 (a0 a1 a2 a3 a4 a5 a6:UInt8):(⟨#[a0,a1,a2,a3,a4,a5,a6]⟩:ByteArray).size=7:=rfl
theorem sz8 (a0 a1 a2 a3 a4 a5 a6 a7:UInt8):(⟨#[a0,a1,a2,a3,a4,a5,a6,a7]⟩:ByteArray).size=8:=rfl
end Go.Proofs.YthkibaldmjfmmaaGreatDoor.Q
