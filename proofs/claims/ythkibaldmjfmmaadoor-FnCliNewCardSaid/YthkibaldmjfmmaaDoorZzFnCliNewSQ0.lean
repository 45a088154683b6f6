/- Of a text of ours what this claim needs. -/
import Derived.Test.YthkibaldmjfmmaaDoorProg
import Derived.Below
import Derived.Deep.Draws
import Derived.Deep.AppendLies
import Derived.Maps.AppendAt
import Derived.OwnWalk
import Derived.Laws.BytesArg
import Derived.Laws.MakeOwn
import Derived.Laws.OwnMore
import Derived.Deep.OwnRows
import Derived.Tactics
import Derived.Lib.ConvBytes
import Derived.Laws.Slices
import Derived.WalkKit
import Derived.KernelRfl
import Derived.RowKit3
import Derived.Deep.LoopGhost
import Derived.Deep.QuietTactic
import Derived.BigQuiet
import Derived.WideLaws
import Derived.Deep.DeepCutAuto
import Derived.Deep.CutBlock
import Derived.Deep.RegionHeld3
import Derived.Laws.Rows
import Derived.Lib.AppendStr
import Derived.ArgAppend
import Derived.Laws.IdiomCopy
import Derived.OrdersHeld
import Derived.Laws.BitsLemmas
import Derived.RowKit
import Derived.Test.YthkibaldmjfmmaaDoorZzFnCliNewSWWords
import Derived.Test.YthkibaldmjfmmaaDoorZzFnCliNewSWLast
import Derived.Test.YthkibaldmjfmmaaDoorZzFnCliNewSWTab
import Derived.Test.YthkibaldmjfmmaaDoorZzFnCliNewSWApart
import Derived.Test.YthkibaldmjfmmaaDoorZzFnCliNewSWFoot
import Derived.Test.YthkibaldmjfmmaaDoorZzFnCliNewSWKept
import Derived.Test.YthkibaldmjfmmaaDoorZzFnCliNewSWShare
import Derived.Test.YthkibaldmjfmmaaDoorZzFnCliNewSWN
import Derived.Test.YthkibaldmjfmmaaDoorZzFnCliNewSWEqStruct
import Derived.Test.YthkibaldmjfmmaaDoorZzFnCliNewSWRepsOne
import Derived.Test.YthkibaldmjfmmaaDoorZzFnCliNewSWGuard
import Derived.Test.YthkibaldmjfmmaaDoorZzFnCliNewSWMore
namespace Go.Proofs.YthkibaldmjfmmaaDoor.Q
abbrev bz0 : ByteArray := ⟨#[]⟩
abbrev bz1 : ByteArray := ⟨#[97,13]⟩
abbrev bz2 : ByteArray := ⟨#[97,10,98]⟩
abbrev bz3 : ByteArray := ⟨#[127]⟩
abbrev bz4 : ByteArray := ⟨#[97,32,108,105,110,101,32,116,104,97,116,32,105,115,32,111,110,101,32,98,121,116,101,32,108,111,110,103,101,114,32,116,104,97,110,32,102,111,114,116,121]⟩
abbrev bz5 : ByteArray := ⟨#[46]⟩
abbrev bz6 : ByteArray := ⟨#[65]⟩
abbrev bz7 : ByteArray := ⟨#[116,111,111,108,111,110,103,110,97,109,101]⟩
abbrev bz8 : ByteArray := ⟨#[97,64,98]⟩
abbrev bz9 : ByteArray := ⟨#[97,46,46,98]⟩
abbrev bz10 : ByteArray := ⟨#[46,97]⟩
abbrev bz11 : ByteArray := ⟨#[97,46,98,46,99,46,100]⟩
abbrev bz12 : ByteArray := ⟨#[85,112,46,111,114,103]⟩
abbrev bz13 : ByteArray := ⟨#[111,110,101,46,111,114,103]⟩
abbrev bz14 : ByteArray := ⟨#[116,119,111,46,111,114,103]⟩
abbrev bz15 : ByteArray := ⟨#[104,117,98,46,110,101,116]⟩
abbrev bz16 : ByteArray := ⟨#[120,46,99,111,109]⟩
abbrev bz17 : ByteArray := ⟨#[102,97,114,46,99,111,109]⟩
abbrev bz18 : ByteArray := ⟨#[111,116,104,101,114,46,99,111,109]⟩
abbrev bz19 : ByteArray := ⟨#[97,46,111,110,101,46,111,114,103]⟩
abbrev bz20 : ByteArray := ⟨#[97]⟩
abbrev bz21 : ByteArray := ⟨#[98]⟩
abbrev bz22 : ByteArray := ⟨#[97,110,110]⟩
abbrev bz23 : ByteArray := ⟨#[98,111,98,55]⟩
abbrev bz24 : ByteArray := ⟨#[104,101,108,108,111]⟩
abbrev bz25 : ByteArray := ⟨#[46,46]⟩
abbrev bz26 : ByteArray := ⟨#[46,100,111,116]⟩
abbrev bz27 : ByteArray := ⟨#[97,32,108,111,110,103,101,114,32,108,105,110,101,32,111,102,32,116,101,120,116]⟩
abbrev bz28 : ByteArray := ⟨#[72,111,112,58,32,111,110,101,46,111,114,103]⟩
abbrev bz29 : ByteArray := ⟨#[72,111,112,58,32]⟩
abbrev bz30 : ByteArray := ⟨#[73,100,58,32,55]⟩
abbrev bz31 : ByteArray := ⟨#[110,111,116,32,100,101,108,105,118,101,114,101,100,58]⟩
abbrev bz32 : ByteArray := ⟨#[60,97,64,111,110,101,46,111,114,103,62]⟩
abbrev bz33 : ByteArray := ⟨#[108,105,110,101,32,116,104,97,116,32,105,115,32,101,120,97,99,116,108,121,32,102,111,114,116,121,32,98,121,116,101,115,32,108,111,110,103,46,46,33]⟩
abbrev bz34 : ByteArray := ⟨#[97,98,99,100,101,102,103,104,105,106,107,108,109,110,111,112,113,114,115,116,117,118,119,120,121,122,48,49,50,51,52,53,54,55,56,57]⟩
open Go.RowKit Go.Proofs.YthkibaldmjfmmaaDoorW.PrintWords Go.Proofs.YthkibaldmjfmmaaDoorW.PrintLast Go.Proofs.YthkibaldmjfmmaaDoorW.PrintMore
theorem zA {p:Prop} (h:p):Aside0 p:=⟨h⟩
theorem zL0 {α:Type} (l:List α) (i:Nat) (a:α):l.toArray.setIfInBounds i a=(l.set i a).toArray:=by simp only [List.setIfInBounds_toArray]
theorem zL1 {α:Type} (x:α) (l:List α) (a:α):(x::l).set 0 a=a::l:=rfl
theorem zL2 {α:Type} (x:α) (l:List α) (i:Nat) (a:α):(x::l).set (i+1) a=x::l.set i a:=rfl
theorem zL3 {α β:Type} (f:α → β) (l:List α):l.toArray.map f=(l.map f).toArray:=by simp only [List.map_toArray]
theorem zL4 {α β:Type} (f:α → β) (x:α) (l:List α):(x::l).map f=f x::l.map f:=rfl
theorem zL5 {α β:Type} (f:α → β):([]:List α).map f=[]:=rfl
theorem zL6 {α:Type} (i:Nat) (l:List α):(l.drop i).length=l.length-i:=List.length_drop
theorem zL7 {α:Type} (i:Nat) (l:List α):(l.take i).length=min i l.length:=List.length_take
attribute [local go_sem] max2_int min2_int max_two min_two max_three min_three max_four min_four
set_option linter.unusedVariables false
set_option linter.unusedSimpArgs false
def errW:Option Int→Value
 | none=>.nilIface
 | some c=>.iface 0 (.int .i64 c)
theorem zq16:errW none=.nilIface:=rfl
theorem zq17 (c:Int):errW (some c)=.iface 0 (.int .i64 c):=rfl
theorem info3:(Tryd.prog.info? 3).map (fun i=>(i.zero,i.size,i.bytes))=some (some (.int .i64 0),1,8):=by kernel_rfl
theorem info5:(Tryd.prog.info? 5).map (fun i=>(i.zero,i.size,i.bytes))=some (some (.int .u8 0),1,1):=by kernel_rfl
theorem info9:(Tryd.prog.info? 9).map (fun i=>(i.zero,i.size,i.bytes))=some (some (.string ⟨#[]⟩),1,16):=by kernel_rfl
theorem info30:(Tryd.prog.info? 30).map (fun i=>(i.zero,i.size,i.bytes))=some (some (.agg #[(.string ⟨#[]⟩),(.string ⟨#[]⟩)]),2,32):=by kernel_rfl
structure S30 where
 f0:ByteArray
 f1:ByteArray
def z30:S30:=⟨(⟨#[]⟩:ByteArray),(⟨#[]⟩:ByteArray)⟩
def k30:Kd S30:=Kd.iso (Kd.pair Kd.string Kd.string) (fun x:S30=>(x.f0,x.f1))
theorem k30_open {w:World} {x:S30} {cs:List Value} (h:k30.K w x cs):cs=[.string x.f0,.string x.f1]:=by
 obtain ⟨_,_,rfl,rfl,rfl⟩:=h
 exact rfl
theorem k30_mkM (w:World) (base:Nat) (ok:Nat→Prop) (x:S30) :k30.M w base ok x [.string x.f0,.string x.f1]:=⟨[.string x.f0],[.string x.f1],rfl,rfl,rfl⟩
def zq26 (xs:List S30) (i:Int):S30:=xs.getD i.toNat z30
theorem at_T30 {w:World} {A:Option Addr} {n:Nat} {xs:List S30} (h:Kd.C k30 w A n xs) (i:Int) (h0:0≤i) (h1:i < n):∃ ad,A=some ad∧w.cell? (ad.add (i.toNat * 2))=some (.string (zq26 xs i).f0)∧w.cell? ⟨(ad.add (i.toNat * 2)).block,(ad.add (i.toNat * 2)).off+1,none⟩=some (.string (zq26 xs i).f1):=by
 obtain ⟨ad,c,e,_,hK,hc0⟩:=Kd.C_get h z30 i h0 h1
 have hc:∀ j u,c[j]?=some u→w.cell? (ad.add (i.toNat * 2+j))=some u:=hc0
 obtain rfl:=k30_open hK
 exact ⟨ad,e,hc 0 _ rfl,by rw [← add_field _ _ 1 (by omega)];exact hc 1 _ rfl⟩
end Go.Proofs.YthkibaldmjfmmaaDoor.Q
