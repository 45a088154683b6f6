/- Of a text of ours what this claim needs. -/
import Derived.Test.YtjdpdkdhfnpcgaaGreatDoorProg
import Derived.Below
import Derived.Deep.Draws
import Derived.Deep.AppendLies
import Derived.Maps.AppendAt
import Derived.OwnWalk
import Derived.Laws.BytesArg
import Derived.Laws.MakeOwn
import Derived.Laws.OwnMore
import Derived.Deep.OwnRows
import Derived.Tactics
import Derived.Lib.ConvBytes
import Derived.Laws.Slices
import Derived.WalkKit
import Derived.KernelRfl
import Derived.RowKit3
import Derived.Deep.LoopGhost
import Derived.Deep.QuietTactic
import Derived.BigQuiet
import Derived.WideLaws
import Derived.Deep.DeepCutAuto
import Derived.Deep.CutBlock
import Derived.Deep.RegionHeld3
import Derived.Laws.Rows
import Derived.Lib.AppendStr
import Derived.ArgAppend
import Derived.Laws.IdiomCopy
import Derived.OrdersHeld
import Derived.Laws.BitsLemmas
import Derived.RowKit
import Derived.Test.YtjdpdkdhfnpcgaaGreatDoorZzFnExactNoteGetSWWords
import Derived.Test.YtjdpdkdhfnpcgaaGreatDoorZzFnExactNoteGetSWLast
import Derived.Test.YtjdpdkdhfnpcgaaGreatDoorZzFnExactNoteGetSWTab
import Derived.Test.YtjdpdkdhfnpcgaaGreatDoorZzFnExactNoteGetSWApart
import Derived.Test.YtjdpdkdhfnpcgaaGreatDoorZzFnExactNoteGetSWFoot
import Derived.Test.YtjdpdkdhfnpcgaaGreatDoorZzFnExactNoteGetSWKept
import Derived.Test.YtjdpdkdhfnpcgaaGreatDoorZzFnExactNoteGetSWShare
import Derived.Test.YtjdpdkdhfnpcgaaGreatDoorZzFnExactNoteGetSWN
import Derived.Test.YtjdpdkdhfnpcgaaGreatDoorZzFnExactNoteGetSWEqStruct
import Derived.Test.YtjdpdkdhfnpcgaaGreatDoorZzFnExactNoteGetSWRepsOne
import Derived.Test.YtjdpdkdhfnpcgaaGreatDoorZzFnExactNoteGetSWGuard
import Derived.Test.YtjdpdkdhfnpcgaaGreatDoorZzFnExactNoteGetSWMore
namespace Go.Proofs.YtjdpdkdhfnpcgaaGreatDoor.Q
abbrev bz0 : ByteArray := ⟨#[]⟩
abbrev bz1 : ByteArray := ⟨#[32]⟩
abbrev bz2 : ByteArray := ⟨#[108,97,116,101,114,32]⟩
abbrev bz3 : ByteArray := ⟨#[60]⟩
abbrev bz4 : ByteArray := ⟨#[64]⟩
abbrev bz5 : ByteArray := ⟨#[13,10]⟩
abbrev bz6 : ByteArray := ⟨#[97,100,100,32]⟩
abbrev bz7 : ByteArray := ⟨#[10]⟩
abbrev bz8 : ByteArray := ⟨#[102,114,111,109,32]⟩
abbrev bz9 : ByteArray := ⟨#[116,111,32]⟩
abbrev bz10 : ByteArray := ⟨#[100,111,110,101,32]⟩
abbrev bz11 : ByteArray := ⟨#[62]⟩
abbrev bz12 : ByteArray := ⟨#[46]⟩
abbrev bz13 : ByteArray := ⟨#[60,62]⟩
abbrev bz14 : ByteArray := ⟨#[13,10,13,10]⟩
abbrev bz15 : ByteArray := ⟨#[97,98,99,100,101,102,103,104,105,106,107,108,109,110,111,112,113,114,115,116,117,118,119,120,121,122,48,49,50,51,52,53,54,55,56,57]⟩
open Go.RowKit Go.Proofs.YtjdpdkdhfnpcgaaGreatDoorW.PrintWords Go.Proofs.YtjdpdkdhfnpcgaaGreatDoorW.PrintLast Go.Proofs.YtjdpdkdhfnpcgaaGreatDoorW.PrintMore
theorem zA {p:Prop} (h:p):Aside0 p:=⟨h⟩
theorem zL0 {α:Type} (l:List α) (i:Nat) (a:α):l.toArray.setIfInBounds i a=(l.set i a).toArray:=by simp only [List.setIfInBounds_toArray]
theorem zL1 {α:Type} (x:α) (l:List α) (a:α):(x::l).set 0 a=a::l:=rfl
theorem zL2 {α:Type} (x:α) (l:List α) (i:Nat) (a:α):(x::l).set (i+1) a=x::l.set i a:=rfl
theorem zL3 {α β:Type} (f:α → β) (l:List α):l.toArray.map f=(l.map f).toArray:=by simp only [List.map_toArray]
theorem zL4 {α β:Type} (f:α → β) (x:α) (l:List α):(x::l).map f=f x::l.map f:=rfl
theorem zL5 {α β:Type} (f:α → β):([]:List α).map f=[]:=rfl
theorem zL6 {α:Type} (i:Nat) (l:List α):(l.drop i).length=l.length-i:=List.length_drop
theorem zL7 {α:Type} (i:Nat) (l:List α):(l.take i).length=min i l.length:=List.length_take
attribute [local go_sem] max2_int min2_int max_two min_two max_three min_three max_four min_four
set_option linter.unusedVariables false
set_option linter.unusedSimpArgs false
def errW:Option Int→Value
 | none=>.nilIface
 | some c=>.iface 0 (.int .i64 c)
theorem errW_none:errW none=.nilIface:=rfl
theorem errW_some (c:Int):errW (some c)=.iface 0 (.int .i64 c):=rfl
theorem info9:(Tryz.prog.info? 9).map (fun i=>(i.zero,i.size,i.bytes))=some (some (.string ⟨#[]⟩),1,16):=by kernel_rfl
theorem info24:(Tryz.prog.info? 24).map (fun i=>(i.zero,i.size,i.bytes))=some (some (.agg #[(.string ⟨#[]⟩),(.string ⟨#[]⟩)]),2,32):=by kernel_rfl
structure S24 where
 f0:ByteArray
 f1:ByteArray
def z24:S24:=⟨(⟨#[]⟩:ByteArray),(⟨#[]⟩:ByteArray)⟩
def k24:Kd S24:=Kd.iso (Kd.pair Kd.string Kd.string) (fun x:S24=>(x.f0,x.f1))
theorem k24_open {w:World} {x:S24} {cs:List Value} (h:k24.K w x cs):cs=[.string x.f0,.string x.f1]:=by
 obtain ⟨_,_,rfl,rfl,rfl⟩:=h
 exact rfl
theorem k24_openM {w:World} {base:Nat} {ok:Nat→Prop} {x:S24} {cs:List Value} (h:k24.M w base ok x cs):cs=[.string x.f0,.string x.f1]:=by
 obtain ⟨_,_,rfl,rfl,rfl⟩:=h
 exact rfl
theorem k24_mkM (w:World) (base:Nat) (ok:Nat→Prop) (x:S24) :k24.M w base ok x [.string x.f0,.string x.f1]:=⟨[.string x.f0],[.string x.f1],rfl,rfl,rfl⟩
def zq6 (xs:List S24) (i:Int):S24:=xs.getD i.toNat z24
theorem at_T24 {w:World} {A:Option Addr} {n:Nat} {xs:List S24} (h:Kd.C k24 w A n xs) (i:Int) (h0:0≤i) (h1:i < n):∃ ad,A=some ad∧w.cell? (ad.add (i.toNat * 2))=some (.string (zq6 xs i).f0)∧w.cell? ⟨(ad.add (i.toNat * 2)).block,(ad.add (i.toNat * 2)).off+1,none⟩=some (.string (zq6 xs i).f1):=by
 obtain ⟨ad,c,e,_,hK,hc0⟩:=Kd.C_get h z24 i h0 h1
 have hc:∀ j u,c[j]?=some u→w.cell? (ad.add (i.toNat * 2+j))=some u:=hc0
 obtain rfl:=k24_open hK
 exact ⟨ad,e,hc 0 _ rfl,by rw [← add_field _ _ 1 (by omega)];exact hc 1 _ rfl⟩
structure S143 where
 f0:S24
 f1:Int
 f2:Int
def z143:S143:=⟨z24,(0:Int),(0:Int)⟩
theorem sz1 (a0:UInt8):(⟨#[a0]⟩:ByteArray).size=1:=rfl
theorem sz2 (a0 a1:UInt8):(⟨#[a0,a1]⟩:ByteArray).size=2:=rfl
theorem sz3 (a0 a1 a2:UInt8):(⟨#[a0,a1,a2]⟩:ByteArray).size=3:=rfl
theorem sz4 (a0 a1 a2 a3:UInt8):(⟨#[a0,a1,a2,a3]⟩:ByteArray).size=4:=rfl
theorem sz5 (a0 a1 a2 a3 a4:UInt8):(⟨#[a0,a1,a2,a3,a4]⟩:ByteArray).size=5:=rfl
theorem sz6 (a0 a1 a2 a3 a4 a5:UInt8):(⟨#[a0,a1,a2,a3,a4,a5]⟩:ByteArray).size=6:=rfl
theorem sz7 (a0 a1 a2 a3 a4 a5 a6:UInt8):(⟨#[a0,a1,a2,a3,a4,a5,a6]⟩:ByteArray).size=7:=rfl
theorem sz8 (a0 a1 a2 a3 a4 a5 a6 a7:UInt8):(⟨#[a0,a1,a2,a3,a4,a5,a6,a7]⟩:ByteArray).size=8:=rfl
end Go.Proofs.YtjdpdkdhfnpcgaaGreatDoor.Q
