/- Of a text of ours what this claim needs. -/
import Derived.Test.YtpeefjfklklhdaaDoorProg
import Derived.Below
import Derived.Deep.Draws
import Derived.Deep.AppendLies
import Derived.Maps.AppendAt
import Derived.OwnWalk
import Derived.Laws.BytesArg
import Derived.Laws.MakeOwn
import Derived.Laws.OwnMore
import Derived.Deep.OwnRows
import Derived.Tactics
import Derived.Lib.ConvBytes
import Derived.Laws.Slices
import Derived.WalkKit
import Derived.KernelRfl
import Derived.RowKit3
import Derived.Deep.LoopGhost
import Derived.Deep.QuietTactic
import Derived.BigQuiet
import Derived.WideLaws
import Derived.Deep.DeepCutAuto
import Derived.Deep.CutBlock
import Derived.Deep.RegionHeld3
import Derived.Laws.Rows
import Derived.Lib.AppendStr
import Derived.ArgAppend
import Derived.Laws.IdiomCopy
import Derived.OrdersHeld
import Derived.Laws.BitsLemmas
import Derived.RowKit
import Derived.Test.YtpeefjfklklhdaaDoorZzFnWayWWWords
import Derived.Test.YtpeefjfklklhdaaDoorZzFnWayWWLast
import Derived.Test.YtpeefjfklklhdaaDoorZzFnWayWWTab
import Derived.Test.YtpeefjfklklhdaaDoorZzFnWayWWApart
import Derived.Test.YtpeefjfklklhdaaDoorZzFnWayWWFoot
import Derived.Test.YtpeefjfklklhdaaDoorZzFnWayWWKept
import Derived.Test.YtpeefjfklklhdaaDoorZzFnWayWWShare
import Derived.Test.YtpeefjfklklhdaaDoorZzFnWayWWN
import Derived.Test.YtpeefjfklklhdaaDoorZzFnWayWWEqStruct
import Derived.Test.YtpeefjfklklhdaaDoorZzFnWayWWRepsOne
import Derived.Test.YtpeefjfklklhdaaDoorZzFnWayWWGuard
import Derived.Test.YtpeefjfklklhdaaDoorZzFnWayWWNEv
import Derived.Test.YtpeefjfklklhdaaDoorZzFnWayWWMore
namespace Go.Proofs.YtpeefjfklklhdaaDoor.Q
abbrev bz0 : ByteArray := ⟨#[111,110,101,46,111,114,103]⟩
abbrev bz1 : ByteArray := ⟨#[116,119,111,46,111,114,103]⟩
abbrev bz2 : ByteArray := ⟨#[104,117,98,46,110,101,116]⟩
abbrev bz3 : ByteArray := ⟨#[]⟩
abbrev bz4 : ByteArray := ⟨#[120,46,99,111,109]⟩
abbrev bz5 : ByteArray := ⟨#[99,111,109]⟩
abbrev bz6 : ByteArray := ⟨#[102,97,114,46,99,111,109]⟩
abbrev bz7 : ByteArray := ⟨#[103,111,110,101,46,99,111,109]⟩
abbrev bz8 : ByteArray := ⟨#[111,116,104,101,114,46,99,111,109]⟩
abbrev bz9 : ByteArray := ⟨#[111,114,103]⟩
abbrev bz10 : ByteArray := ⟨#[110,101,116]⟩
abbrev bz11 : ByteArray := ⟨#[97,46,111,110,101,46,111,114,103]⟩
abbrev bz12 : ByteArray := ⟨#[98,46,111,114,103]⟩
abbrev bz13 : ByteArray := ⟨#[97]⟩
abbrev bz14 : ByteArray := ⟨#[65]⟩
abbrev bz15 : ByteArray := ⟨#[97,46,46,98]⟩
abbrev bz16 : ByteArray := ⟨#[46]⟩
abbrev bz17 : ByteArray := ⟨#[99,46,111,114,103]⟩
abbrev bz18 : ByteArray := ⟨#[116,111,111,108,111,110,103,110,97,109,101]⟩
abbrev bz19 : ByteArray := ⟨#[97,64,98]⟩
abbrev bz20 : ByteArray := ⟨#[46,97]⟩
abbrev bz21 : ByteArray := ⟨#[97,46,98,46,99,46,100]⟩
abbrev bz22 : ByteArray := ⟨#[85,112,46,111,114,103]⟩
abbrev bz23 : ByteArray := ⟨#[98]⟩
abbrev bz24 : ByteArray := ⟨#[97,110,110]⟩
abbrev bz25 : ByteArray := ⟨#[98,111,98,55]⟩
abbrev bz26 : ByteArray := ⟨#[97,98,99,100,101,102,103,104,105,106,107,108,109,110,111,112,113,114,115,116,117,118,119,120,121,122,48,49,50,51,52,53,54,55,56,57]⟩
open Go.RowKit Go.Proofs.YtpeefjfklklhdaaDoorW.PrintWords Go.Proofs.YtpeefjfklklhdaaDoorW.PrintLast Go.Proofs.YtpeefjfklklhdaaDoorW.PrintMore
attribute [local go_sem] max2_int min2_int max_two min_two max_three min_three max_four min_four
set_option linter.unusedVariables false
set_option linter.unusedSimpArgs false
def errW:Option Int→Value
  | none=>.nilIface
  | some c=>.iface 0 (.int .i64 c)
theorem errW_none:errW none=.nilIface:=rfl
theorem errW_some (c:Int):errW (some c)=.iface 0 (.int .i64 c):=rfl
theorem info5:(Tryd.prog.info? 5).map (fun i=>(i.zero,i.size,i.bytes))=some (some (.int .u8 0),1,1):=by kernel_rfl
theorem info9:(Tryd.prog.info? 9).map (fun i=>(i.zero,i.size,i.bytes))=some (some (.string ⟨#[]⟩),1,16):=by kernel_rfl
theorem info69:(Tryd.prog.info? 69).map (fun i=>(i.zero,i.size,i.bytes))=some (some (.agg #[(.string ⟨#[]⟩),(.string ⟨#[]⟩)]),2,32):=by kernel_rfl
structure S69 where
  f0:ByteArray
  f1:ByteArray
def z69:S69:=⟨bz3,bz3⟩
def k69:Kd S69:=Kd.iso (Kd.pair Kd.string Kd.string) (fun x:S69=>(x.f0,x.f1))
theorem k69_open {w:World} {x:S69} {cs:List Value} (h:k69.K w x cs):cs=[.string x.f0,.string x.f1]:=by
  obtain ⟨_,_,rfl,rfl,rfl⟩:=h
  exact rfl
theorem k69_mkM (w:World) (base:Nat) (ok:Nat→Prop) (x:S69) :k69.M w base ok x [.string x.f0,.string x.f1]:=⟨[.string x.f0],[.string x.f1],rfl,rfl,rfl⟩
def rd_T69 (xs:List S69) (i:Int):S69:=xs.getD i.toNat z69
theorem at_T69 {w:World} {A:Option Addr} {n:Nat} {xs:List S69} (h:Kd.C k69 w A n xs) (i:Int) (h0:0≤i) (h1:i < n):∃ ad,A=some ad∧w.cell? (ad.add (i.toNat * 2))=some (.string (rd_T69 xs i).f0)∧w.cell? ⟨(ad.add (i.toNat * 2)).block,(ad.add (i.toNat * 2)).off+1,none⟩=some (.string (rd_T69 xs i).f1):=by
  obtain ⟨ad,c,e,_,hK,hc0⟩:=Kd.C_get h z69 i h0 h1
  have hc:∀ j u,c[j]?=some u→w.cell? (ad.add (i.toNat * 2+j))=some u:=hc0
  obtain rfl:=k69_open hK
  exact ⟨ad,e,hc 0 _ rfl,by rw [← add_field _ _ 1 (by omega)];exact hc 1 _ rfl⟩
structure S56 where
  f0:ByteArray
  f1:(List ByteArray)
  f2:(List S69)
def z56:S56:=⟨bz3,([]:List ByteArray),([]:List S69)⟩
def k56:Kd S56:=Kd.iso (Kd.pair Kd.string (Kd.pair (Kd.slice 9 Kd.string) (Kd.slice 69 k69))) (fun x:S56=>(x.f0,x.f1,x.f2))
theorem k56_open {w:World} {x:S56} {cs:List Value} (h:k56.K w x cs):∃ A1 c1 A2 c2,cs=[.string x.f0,.slice A1 x.f1.length c1,.slice A2 x.f2.length c2]∧x.f1.length≤c1∧Kd.string.C w A1 x.f1.length x.f1∧x.f2.length≤c2∧k69.C w A2 x.f2.length x.f2:=by
  obtain ⟨_,_,rfl,rfl,⟨_,_,rfl,⟨A1,c1,rfl,l1,g1⟩,⟨A2,c2,rfl,l2,g2⟩⟩⟩:=h
  exact ⟨A1,c1,A2,c2,rfl,l1,g1,l2,g2⟩
theorem k56_mk (w:World) (x:S56) {A1:Option Addr} {c1:Nat} (l1:x.f1.length≤c1) (g1:Kd.string.C w A1 x.f1.length x.f1) {A2:Option Addr} {c2:Nat} (l2:x.f2.length≤c2) (g2:k69.C w A2 x.f2.length x.f2):k56.K w x [.string x.f0,.slice A1 x.f1.length c1,.slice A2 x.f2.length c2]:=⟨[.string x.f0],[.slice A1 x.f1.length c1,.slice A2 x.f2.length c2],rfl,rfl,⟨[.slice A1 x.f1.length c1],[.slice A2 x.f2.length c2],rfl,⟨A1,c1,rfl,l1,g1⟩,⟨A2,c2,rfl,l2,g2⟩⟩⟩
theorem k56_openF {W:World} {ok:Nat→Prop} {x:S56} {cs:List Value} (h:Kd.FK k56 W ok x cs):∃ A1 c1 A2 c2,cs=[.string x.f0,.slice A1 x.f1.length c1,.slice A2 x.f2.length c2]∧x.f1.length≤c1∧Kd.F Kd.string W ok A1 x.f1.length x.f1∧x.f2.length≤c2∧Kd.F k69 W ok A2 x.f2.length x.f2:=by
  obtain ⟨A1,c1,A2,c2,rfl,l1,_,l2,_⟩:=k56_open (Kd.FK_now h)
  exact ⟨A1,c1,A2,c2,rfl,l1,(fun W' hW=>by obtain ⟨A1_,c1_,A2_,c2_,he,l1_,g1_,l2_,g2_⟩:=k56_open (h W' hW);injection (Option.some.inj (show some (Value.slice A1 x.f1.length c1)=some (Value.slice A1_ x.f1.length c1_) from congrArg (fun l=>l[1]?) he)) with ha_ _ _;rw [ha_];exact g1_),l2,(fun W' hW=>by obtain ⟨A1_,c1_,A2_,c2_,he,l1_,g1_,l2_,g2_⟩:=k56_open (h W' hW);injection (Option.some.inj (show some (Value.slice A2 x.f2.length c2)=some (Value.slice A2_ x.f2.length c2_) from congrArg (fun l=>l[2]?) he)) with ha_ _ _;rw [ha_];exact g2_)⟩
theorem k56_mkF (W:World) (ok:Nat→Prop) (x:S56) {A1:Option Addr} {c1:Nat} (l1:x.f1.length≤c1) (g1:Kd.F Kd.string W ok A1 x.f1.length x.f1) {A2:Option Addr} {c2:Nat} (l2:x.f2.length≤c2) (g2:Kd.F k69 W ok A2 x.f2.length x.f2):Kd.FK k56 W ok x [.string x.f0,.slice A1 x.f1.length c1,.slice A2 x.f2.length c2]:=fun W2 hW=>k56_mk W2 x l1 (g1 W2 hW) l2 (g2 W2 hW)
def rd_T56 (xs:List S56) (i:Int):S56:=xs.getD i.toNat z56
theorem at_T56 {w:World} {A:Option Addr} {n:Nat} {xs:List S56} (h:Kd.C k56 w A n xs) (i:Int) (h0:0≤i) (h1:i < n):∃ ad A1 c1 A2 c2,A=some ad∧w.cell? (ad.add (i.toNat * 3))=some (.string (rd_T56 xs i).f0)∧w.cell? ⟨(ad.add (i.toNat * 3)).block,(ad.add (i.toNat * 3)).off+1,none⟩=some (.slice A1 (rd_T56 xs i).f1.length c1)∧w.cell? ⟨(ad.add (i.toNat * 3)).block,(ad.add (i.toNat * 3)).off+2,none⟩=some (.slice A2 (rd_T56 xs i).f2.length c2)∧(rd_T56 xs i).f1.length≤c1∧Kd.string.C w A1 (rd_T56 xs i).f1.length (rd_T56 xs i).f1∧(rd_T56 xs i).f2.length≤c2∧k69.C w A2 (rd_T56 xs i).f2.length (rd_T56 xs i).f2:=by
  obtain ⟨ad,c,e,_,hK,hc0⟩:=Kd.C_get h z56 i h0 h1
  have hc:∀ j u,c[j]?=some u→w.cell? (ad.add (i.toNat * 3+j))=some u:=hc0
  obtain ⟨A1,c1,A2,c2,rfl,l1,g1,l2,g2⟩:=k56_open hK
  exact ⟨ad,A1,c1,A2,c2,e,hc 0 _ rfl,by rw [← add_field _ _ 1 (by omega)];exact hc 1 _ rfl,by rw [← add_field _ _ 2 (by omega)];exact hc 2 _ rfl,l1,g1,l2,g2⟩
theorem ob_ {k:Nat} {A:Option Addr} {n c m d:Nat} (h:some k≠(Value.slice A n c).ownBlock):some k≠(Value.slice A m d).ownBlock:=by cases A<;>exact h
end Go.Proofs.YtpeefjfklklhdaaDoor.Q
