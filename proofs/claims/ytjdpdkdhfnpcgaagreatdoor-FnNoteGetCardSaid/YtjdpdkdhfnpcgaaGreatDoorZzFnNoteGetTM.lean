/- Of a text of ours what this claim needs. -/
import Derived.Test.YtjdpdkdhfnpcgaaGreatDoorProg
import Derived.Test.YtjdpdkdhfnpcgaaGreatDoorZzFnNoteGetTW
namespace Go.Proofs.YtjdpdkdhfnpcgaaGreatDoor.Q
abbrev bz0 : ByteArray := ⟨#[]⟩
abbrev bz1 : ByteArray := ⟨#[32]⟩
abbrev bz2 : ByteArray := ⟨#[60]⟩
abbrev bz3 : ByteArray := ⟨#[108,97,116,101,114,32]⟩
abbrev bz4 : ByteArray := ⟨#[64]⟩
abbrev bz5 : ByteArray := ⟨#[13,10]⟩
abbrev bz6 : ByteArray := ⟨#[46]⟩
abbrev bz7 : ByteArray := ⟨#[97,100,100,32]⟩
abbrev bz8 : ByteArray := ⟨#[10]⟩
abbrev bz9 : ByteArray := ⟨#[62]⟩
abbrev bz10 : ByteArray := ⟨#[102,114,111,109,32]⟩
abbrev bz11 : ByteArray := ⟨#[116,111,32]⟩
abbrev bz12 : ByteArray := ⟨#[100,111,110,101,32]⟩
abbrev bz13 : ByteArray := ⟨#[13]⟩
abbrev bz14 : ByteArray := ⟨#[48]⟩
abbrev bz15 : ByteArray := ⟨#[46,13,10]⟩
abbrev bz16 : ByteArray := ⟨#[60,62]⟩
abbrev bz17 : ByteArray := ⟨#[111,110,101,46,111,114,103]⟩
abbrev bz18 : ByteArray := ⟨#[116,119,111,46,111,114,103]⟩
abbrev bz19 : ByteArray := ⟨#[104,117,98,46,110,101,116]⟩
abbrev bz20 : ByteArray := ⟨#[120,46,99,111,109]⟩
abbrev bz21 : ByteArray := ⟨#[102,97,114,46,99,111,109]⟩
abbrev bz22 : ByteArray := ⟨#[111,116,104,101,114,46,99,111,109]⟩
abbrev bz23 : ByteArray := ⟨#[97,46,111,110,101,46,111,114,103]⟩
abbrev bz24 : ByteArray := ⟨#[97]⟩
abbrev bz25 : ByteArray := ⟨#[98]⟩
abbrev bz26 : ByteArray := ⟨#[97,110,110]⟩
abbrev bz27 : ByteArray := ⟨#[98,111,98,55]⟩
abbrev bz28 : ByteArray := ⟨#[104,101,108,108,111]⟩
abbrev bz29 : ByteArray := ⟨#[46,46]⟩
abbrev bz30 : ByteArray := ⟨#[46,100,111,116]⟩
abbrev bz31 : ByteArray := ⟨#[97,32,108,111,110,103,101,114,32,108,105,110,101,32,111,102,32,116,101,120,116]⟩
abbrev bz32 : ByteArray := ⟨#[72,111,112,58,32,111,110,101,46,111,114,103]⟩
abbrev bz33 : ByteArray := ⟨#[72,111,112,58,32]⟩
abbrev bz34 : ByteArray := ⟨#[73,100,58,32,55]⟩
abbrev bz35 : ByteArray := ⟨#[110,111,116,32,100,101,108,105,118,101,114,101,100,58]⟩
abbrev bz36 : ByteArray := ⟨#[60,97,64,111,110,101,46,111,114,103,62]⟩
abbrev bz37 : ByteArray := ⟨#[108,105,110,101,32,116,104,97,116,32,105,115,32,101,120,97,99,116,108,121,32,102,111,114,116,121,32,98,121,116,101,115,32,108,111,110,103,46,46,33]⟩
abbrev bz38 : ByteArray := ⟨#[13,10,13,10]⟩
abbrev bz39 : ByteArray := ⟨#[97,98,99,100,101,102,103,104,105,106,107,108,109,110,111,112,113,114,115,116,117,118,119,120,121,122,48,49,50,51,52,53,54,55,56,57]⟩
open Go.RowKit Go.Proofs.YtjdpdkdhfnpcgaaGreatDoorW.PrintWords Go.Proofs.YtjdpdkdhfnpcgaaGreatDoorW.PrintLast Go.Proofs.YtjdpdkdhfnpcgaaGreatDoorW.PrintMore
theorem zoo {P:Prop}(h:P:=by omega):P:=h
theorem zod {P:Prop}(h:P:=by decide):P:=h
theorem zok {P:Prop}(h:P:=by kernel_rfl):P:=h
theorem zA {p:Prop}(h:p):Aside0 p:=⟨h⟩
theorem zL0 {α:Type}(l:List α)(i:Nat)(a:α):l.toArray.setIfInBounds i a=(l.set i a).toArray:=by simp only[List.setIfInBounds_toArray]
theorem zL1 {α:Type}(x:α)(l:List α)(a:α):(x::l).set 0 a=a::l:=rfl
theorem zL2 {α:Type}(x:α)(l:List α)(i:Nat)(a:α):(x::l).set (i+1) a=x::l.set i a:=rfl
theorem zL3 {α β:Type}(f:α → β)(l:List α):l.toArray.map f=(l.map f).toArray:=by simp only[List.map_toArray]
theorem zL4 {α β:Type}(f:α → β)(x:α)(l:List α):(x::l).map f=f x::l.map f:=rfl
theorem zL5 {α β:Type}(f:α → β):([]:List α).map f=[]:=rfl
theorem zL6 {α:Type}(i:Nat)(l:List α):(l.drop i).length=l.length-i:=List.length_drop
theorem zL7 {α:Type}(i:Nat)(l:List α):(l.take i).length=min i l.length:=List.length_take
attribute [local go_sem] max2_int min2_int max_two min_two max_three min_three max_four min_four
set_option linter.unusedVariables false
set_option linter.unusedSimpArgs false
def errW:Option Int→Value
 | none=>.nilIface
 | some c=>.iface 0 (.int .i64 c)
theorem errW_none:errW none=.nilIface:=rfl
theorem errW_some (c:Int):errW (some c)=.iface 0 (.int .i64 c):=rfl
theorem info5:(Tryz.prog.info? 5).map (fun i=>(i.zero,i.size,i.bytes))=some (some (.int .u8 0),1,1):=by kernel_rfl
theorem info9:(Tryz.prog.info? 9).map (fun i=>(i.zero,i.size,i.bytes))=some (some (.string ⟨#[]⟩),1,16):=by kernel_rfl
theorem info24:(Tryz.prog.info? 24).map (fun i=>(i.zero,i.size,i.bytes))=some (some (.agg #[(.string ⟨#[]⟩),(.string ⟨#[]⟩)]),2,32):=by kernel_rfl
theorem info114:(Tryz.prog.info? 114).map (fun i=>(i.zero,i.size,i.bytes))=some (some (.agg #[(.int .i64 0),(.string ⟨#[]⟩),(.string ⟨#[]⟩),(.slice none 0 0),(.slice none 0 0)]),5,88):=by kernel_rfl
theorem info143:(Tryz.prog.info? 143).map (fun i=>(i.zero,i.size,i.bytes))=some (some (.agg #[(.string ⟨#[]⟩),(.string ⟨#[]⟩),(.int .i64 0),(.int .i64 0)]),4,48):=by kernel_rfl
structure S24 where
 f0:ByteArray
 f1:ByteArray
def z24:S24:=⟨(⟨#[]⟩:ByteArray),(⟨#[]⟩:ByteArray)⟩
def k24:Kd S24:=Kd.iso (Kd.pair Kd.string Kd.string) (fun x:S24=>(x.f0,x.f1))
theorem k24_open {w:World}{x:S24}{cs:List Value}(h:k24.K w x cs):cs=[.string x.f0,.string x.f1]:=by
 obtain⟨_,_,rfl,rfl,rfl⟩:=h
 exact rfl
theorem k24_openM {w:World}{base:Nat}{ok:Nat→Prop}{x:S24}{cs:List Value}(h:k24.M w base ok x cs):cs=[.string x.f0,.string x.f1]:=by
 obtain⟨_,_,rfl,rfl,rfl⟩:=h
 exact rfl
theorem k24_mk (w:World)(x:S24) :k24.K w x [.string x.f0,.string x.f1]:=⟨[.string x.f0],[.string x.f1],rfl,rfl,rfl⟩
theorem k24_mkM (w:World)(base:Nat)(ok:Nat→Prop)(x:S24) :k24.M w base ok x [.string x.f0,.string x.f1]:=⟨[.string x.f0],[.string x.f1],rfl,rfl,rfl⟩
def zq13 (xs:List S24)(i:Int):S24:=xs.getD i.toNat z24
theorem at_T24 {w:World}{A:Option Addr}{n:Nat}{xs:List S24}(h:Kd.C k24 w A n xs)(i:Int)(h0:0≤i)(h1:i<n):∃ ad,A=some ad∧w.cell? (ad.add (i.toNat*2))=some (.string (zq13 xs i).f0)∧w.cell? ⟨(ad.add (i.toNat*2)).block,(ad.add (i.toNat*2)).off+1,none⟩=some (.string (zq13 xs i).f1):=by
 obtain⟨ad,c,e,_,hK,hc0⟩:=Kd.C_get h z24 i h0 h1
 have hc:∀ j u,c[j]?=some u→w.cell? (ad.add (i.toNat*2+j))=some u:=hc0
 obtain rfl:=k24_open hK
 exact⟨ad,e,hc 0 _ rfl,by rw[← add_field _ _ 1 (by omega)];exact hc 1 _ rfl⟩
structure S143 where
 f0:S24
 f1:Int
 f2:Int
def z143:S143:=⟨z24,(0:Int),(0:Int)⟩
def k143:Kd S143:=Kd.iso (Kd.pair k24 (Kd.pair (Kd.int .i64) (Kd.int .i64))) (fun x:S143=>(x.f0,x.f1,x.f2))
theorem k143_open {w:World}{x:S143}{cs:List Value}(h:k143.K w x cs):cs=[.string x.f0.f0,.string x.f0.f1,.int .i64 x.f1,.int .i64 x.f2]:=by
 obtain⟨_,_,rfl,s0,⟨_,_,rfl,rfl,rfl⟩⟩:=h
 obtain rfl:=k24_open s0
 exact rfl
theorem k143_openM {w:World}{base:Nat}{ok:Nat→Prop}{x:S143}{cs:List Value}(h:k143.M w base ok x cs):cs=[.string x.f0.f0,.string x.f0.f1,.int .i64 x.f1,.int .i64 x.f2]:=by
 obtain⟨_,_,rfl,s0,⟨_,_,rfl,rfl,rfl⟩⟩:=h
 obtain rfl:=k24_openM s0
 exact rfl
theorem k143_mkM (w:World)(base:Nat)(ok:Nat→Prop)(x:S143) :k143.M w base ok x [.string x.f0.f0,.string x.f0.f1,.int .i64 x.f1,.int .i64 x.f2]:=⟨[.string x.f0.f0,.string x.f0.f1],[.int .i64 x.f1,.int .i64 x.f2],rfl,(k24_mkM w base ok x.f0 ),⟨[.int .i64 x.f1],[.int .i64 x.f2],rfl,rfl,rfl⟩⟩
def zq17 (xs:List S143)(i:Int):S143:=xs.getD i.toNat z143
theorem at_T143 {w:World}{A:Option Addr}{n:Nat}{xs:List S143}(h:Kd.C k143 w A n xs)(i:Int)(h0:0≤i)(h1:i<n):∃ ad,A=some ad∧w.cell? (ad.add (i.toNat*4))=some (.string (zq17 xs i).f0.f0)∧w.cell? ⟨(ad.add (i.toNat*4)).block,(ad.add (i.toNat*4)).off+1,none⟩=some (.string (zq17 xs i).f0.f1)∧w.cell? ⟨(ad.add (i.toNat*4)).block,(ad.add (i.toNat*4)).off+2,none⟩=some (.int .i64 (zq17 xs i).f1)∧w.cell? ⟨(ad.add (i.toNat*4)).block,(ad.add (i.toNat*4)).off+3,none⟩=some (.int .i64 (zq17 xs i).f2):=by
 obtain⟨ad,c,e,_,hK,hc0⟩:=Kd.C_get h z143 i h0 h1
 have hc:∀ j u,c[j]?=some u→w.cell? (ad.add (i.toNat*4+j))=some u:=hc0
 obtain rfl:=k143_open hK
 exact⟨ad,e,hc 0 _ rfl,by rw[← add_field _ _ 1 (by omega)];exact hc 1 _ rfl,by rw[← add_field _ _ 2 (by omega)];exact hc 2 _ rfl,by rw[← add_field _ _ 3 (by omega)];exact hc 3 _ rfl⟩
structure S114 where
 f0:Int
 f1:S24
 f2:(List S143)
 f3:(List ByteArray)
def z114:S114:=⟨(0:Int),z24,([]:List S143),([]:List ByteArray)⟩
def k114:Kd S114:=Kd.iso (Kd.pair (Kd.int .i64) (Kd.pair k24 (Kd.pair (Kd.slice 143 k143) (Kd.slice 9 Kd.string)))) (fun x:S114=>(x.f0,x.f1,x.f2,x.f3))
theorem k114_open {w:World}{x:S114}{cs:List Value}(h:k114.K w x cs):∃ A3 c3 A4 c4,cs=[.int .i64 x.f0,.string x.f1.f0,.string x.f1.f1,.slice A3 x.f2.length c3,.slice A4 x.f3.length c4]∧x.f2.length≤c3∧k143.C w A3 x.f2.length x.f2∧x.f3.length≤c4∧Kd.string.C w A4 x.f3.length x.f3:=by
 obtain⟨_,_,rfl,rfl,⟨_,_,rfl,s1,⟨_,_,rfl,⟨A3,c3,rfl,l3,g3⟩,⟨A4,c4,rfl,l4,g4⟩⟩⟩⟩:=h
 obtain rfl:=k24_open s1
 exact⟨A3,c3,A4,c4,rfl,l3,g3,l4,g4⟩
theorem k114_mk (w:World)(x:S114){A3:Option Addr}{c3:Nat}(l3:x.f2.length≤c3)(g3:k143.C w A3 x.f2.length x.f2){A4:Option Addr}{c4:Nat}(l4:x.f3.length≤c4)(g4:Kd.string.C w A4 x.f3.length x.f3):k114.K w x [.int .i64 x.f0,.string x.f1.f0,.string x.f1.f1,.slice A3 x.f2.length c3,.slice A4 x.f3.length c4]:=⟨[.int .i64 x.f0],[.string x.f1.f0,.string x.f1.f1,.slice A3 x.f2.length c3,.slice A4 x.f3.length c4],rfl,rfl,⟨[.string x.f1.f0,.string x.f1.f1],[.slice A3 x.f2.length c3,.slice A4 x.f3.length c4],rfl,(k24_mk w x.f1 ),⟨[.slice A3 x.f2.length c3],[.slice A4 x.f3.length c4],rfl,⟨A3,c3,rfl,l3,g3⟩,⟨A4,c4,rfl,l4,g4⟩⟩⟩⟩
theorem k114_mkM (w:World)(base:Nat)(ok:Nat→Prop)(x:S114){v3:Value}(g3:k143.R 143 w base ok v3 x.f2){v4:Value}(g4:Kd.string.R 9 w base ok v4 x.f3):k114.M w base ok x [.int .i64 x.f0,.string x.f1.f0,.string x.f1.f1,v3,v4]:=⟨[.int .i64 x.f0],[.string x.f1.f0,.string x.f1.f1,v3,v4],rfl,rfl,⟨[.string x.f1.f0,.string x.f1.f1],[v3,v4],rfl,(k24_mkM w base ok x.f1 ),⟨[v3],[v4],rfl,⟨v3,rfl,g3⟩,⟨v4,rfl,g4⟩⟩⟩⟩
theorem k114_openF {W:World}{ok:Nat→Prop}{x:S114}{cs:List Value}(h:Kd.FK k114 W ok x cs):∃ A3 c3 A4 c4,cs=[.int .i64 x.f0,.string x.f1.f0,.string x.f1.f1,.slice A3 x.f2.length c3,.slice A4 x.f3.length c4]∧x.f2.length≤c3∧Kd.F k143 W ok A3 x.f2.length x.f2∧x.f3.length≤c4∧Kd.F Kd.string W ok A4 x.f3.length x.f3:=by
 obtain⟨A3,c3,A4,c4,rfl,l3,_,l4,_⟩:=k114_open (Kd.FK_now h)
 exact⟨A3,c3,A4,c4,rfl,l3,(fun W' hW=>by obtain⟨A3_,c3_,A4_,c4_,he,l3_,g3_,l4_,g4_⟩:=k114_open (h W' hW);injection (Option.some.inj (show some (Value.slice A3 x.f2.length c3)=some (Value.slice A3_ x.f2.length c3_)from congrArg (fun l=>l[3]?) he))with ha_ _ _;rw[ha_];exact g3_),l4,(fun W' hW=>by obtain⟨A3_,c3_,A4_,c4_,he,l3_,g3_,l4_,g4_⟩:=k114_open (h W' hW);injection (Option.some.inj (show some (Value.slice A4 x.f3.length c4)=some (Value.slice A4_ x.f3.length c4_)from congrArg (fun l=>l[4]?) he))with ha_ _ _;rw[ha_];exact g4_)⟩
theorem k114_mkF (W:World)(ok:Nat→Prop)(x:S114){A3:Option Addr}{c3:Nat}(l3:x.f2.length≤c3)(g3:Kd.F k143 W ok A3 x.f2.length x.f2){A4:Option Addr}{c4:Nat}(l4:x.f3.length≤c4)(g4:Kd.F Kd.string W ok A4 x.f3.length x.f3):Kd.FK k114 W ok x [.int .i64 x.f0,.string x.f1.f0,.string x.f1.f1,.slice A3 x.f2.length c3,.slice A4 x.f3.length c4]:=fun W2 hW=>k114_mk W2 x l3 (g3 W2 hW) l4 (g4 W2 hW)
def zq4 (xs:List S114)(i:Int):S114:=xs.getD i.toNat z114
theorem at_T114 {w:World}{A:Option Addr}{n:Nat}{xs:List S114}(h:Kd.C k114 w A n xs)(i:Int)(h0:0≤i)(h1:i<n):∃ ad A3 c3 A4 c4,A=some ad∧w.cell? (ad.add (i.toNat*5))=some (.int .i64 (zq4 xs i).f0)∧w.cell? ⟨(ad.add (i.toNat*5)).block,(ad.add (i.toNat*5)).off+1,none⟩=some (.string (zq4 xs i).f1.f0)∧w.cell? ⟨(ad.add (i.toNat*5)).block,(ad.add (i.toNat*5)).off+2,none⟩=some (.string (zq4 xs i).f1.f1)∧w.cell? ⟨(ad.add (i.toNat*5)).block,(ad.add (i.toNat*5)).off+3,none⟩=some (.slice A3 (zq4 xs i).f2.length c3)∧w.cell? ⟨(ad.add (i.toNat*5)).block,(ad.add (i.toNat*5)).off+4,none⟩=some (.slice A4 (zq4 xs i).f3.length c4)∧(zq4 xs i).f2.length≤c3∧k143.C w A3 (zq4 xs i).f2.length (zq4 xs i).f2∧(zq4 xs i).f3.length≤c4∧Kd.string.C w A4 (zq4 xs i).f3.length (zq4 xs i).f3:=by
 obtain⟨ad,c,e,_,hK,hc0⟩:=Kd.C_get h z114 i h0 h1
 have hc:∀ j u,c[j]?=some u→w.cell? (ad.add (i.toNat*5+j))=some u:=hc0
 obtain⟨A3,c3,A4,c4,rfl,l3,g3,l4,g4⟩:=k114_open hK
 exact⟨ad,A3,c3,A4,c4,e,hc 0 _ rfl,by rw[← add_field _ _ 1 (by omega)];exact hc 1 _ rfl,by rw[← add_field _ _ 2 (by omega)];exact hc 2 _ rfl,by rw[← add_field _ _ 3 (by omega)];exact hc 3 _ rfl,by rw[← add_field _ _ 4 (by omega)];exact hc 4 _ rfl,l3,g3,l4,g4⟩
theorem sz1 (a0:UInt8):(⟨#[a0]⟩:ByteArray).size=1:=rfl
theorem sz2 (a0 a1:UInt8):(⟨#[a0,a1]⟩:ByteArray).size=2:=rfl
theorem sz3 (a0 a1 a2:UInt8):(⟨#[a0,a1,a2]⟩:ByteArray).size=3:=rfl
theorem sz4 (a0 a1 a2 a3:UInt8):(⟨#[a0,a1,a2,a3]⟩:ByteArray).size=4:=rfl
theorem sz5 (a0 a1 a2 a3 a4:UInt8):(⟨#[a0,a1,a2,a3,a4]⟩:ByteArray).size=5:=rfl
theorem sz6 (a0 a1 a2 a3 a4 a5:UInt8):(⟨#[a0,a1,a2,a3,a4,a5]⟩:ByteArray).size=6:=rfl
theorem sz7 (a0 a1 a2 a3 a4 a5 a6:UInt8):(⟨#[a0,a1,a2,a3,a4,a5,a6]⟩:ByteArray).size=7:=rfl
theorem sz8 (a0 a1 a2 a3 a4 a5 a6 a7:UInt8):(⟨#[a0,a1,a2,a3,a4,a5,a6,a7]⟩:ByteArray).size=8:=rfl
end Go.Proofs.YtjdpdkdhfnpcgaaGreatDoor.Q
namespace Go.Proofs.YtjdpdkdhfnpcgaaGreatDoor.Q
open Go.RowKit Go.Proofs.YtjdpdkdhfnpcgaaGreatDoorW.PrintWords Go.Proofs.YtjdpdkdhfnpcgaaGreatDoorW.PrintLast Go.Proofs.YtjdpdkdhfnpcgaaGreatDoorW.PrintMore
set_option linter.unusedVariables false
theorem zBk {w a b:World}(_h:Aside0 (Below w.heap.size w a))(k:Below w.heap.size w b):Below w.heap.size w b:=k
theorem zHk {w a b:World}{g:Nat}{r:Option Nat}(_h:Aside0 (KeepBut w a g r))(k:KeepBut w b g r):KeepBut w b g r:=k
theorem zIk {α β:Type}{R:World → World → Nat → α → β → Prop}{w a b:World}{g:Nat}{s:α}{t:β}(_h:Aside0 (R w a g s t))(k:R w b g s t):R w b g s t:=k
theorem zB {P:Prop}(h:P:=by(first|refine zBk HB ?_|skip);repeat(first|(with_reducible first|exact HB.out|apply below_alloc|apply pw_below_drewN|apply zq19|refine below_set ?_ (Aside0.out (by with_reducible assumption))|refine below_set ?_ (IsS106.ge HI0.out))|exact HB.out)):P:=h
theorem zI106 {P:Prop}(h:P:=by(first|refine zIk (R:=IsS106) HI0 ?_|skip);repeat(first|(with_reducible first|exact HI0.out|apply IsS106.alloc|apply IsS106.drewN|apply IsS106.drew|apply IsS106.set_1|refine IsS106.far ?_ (Aside0.out (by with_reducible assumption)) _)|exact HI0.out)):P:=h
theorem zH {P:Prop}(h:P:=by(first|refine zHk HK ?_|skip);repeat(first|(with_reducible first|exact HK.out|apply KeepBut.set_|apply keep_drewN|apply keep_drew|apply keep_alloc|refine keep_far ?_ (Aside0.out (by with_reducible assumption)) _)|exact HK.out)):P:=h
theorem zX {P Q R:Prop}(hy:R)(H:Q)(f:R → Q → P:=by intro hy H;first|(rw[hy];with_reducible exact H)|(have H2_:=(Option.bind_some _ _).symm.trans H;rw[hy];with_reducible exact H2_)|(have H2_:=(Option.bind_some _ _).symm.trans H;with_reducible exact H2_)|with_reducible exact H|(rw[hy];exact H)|exact H):P:=f hy H
theorem zfn:¬ (false=true):=by decide
theorem zS {a b:Nat}{W:World}(hg:b=W.heap.size)(h:a≤W.heap.size:=by exact zq3 zB):a≤b:=hg ▸ h
theorem zNlt {g b:Nat}{W:World}{o:Obj}(hg:b=W.heap.size)(h:W.heap[g]?=some o):g≠b:=hg ▸ Nat.ne_of_lt (blk_lt h)
theorem zNgt {g b:Nat}{W:World}{o:Obj}(hg:b=W.heap.size)(h:W.heap[g]?=some o):b≠g:=hg ▸ Nat.ne_of_gt (blk_lt h)
theorem zK {P Q:Prop}(q:Q)(f:Q → P:=by intro q;(with_reducible repeat(first|refine blk_drewN ?_ _|refine blk_drew ?_|refine blk_alloc ?_ _));exact q):P:=f q
theorem zVN {P Q:Prop}(q:Q)(f:Q → P:=by intro q;(with_reducible repeat(first|apply Kd.N_alloc|apply Kd.N_drewN|apply Kd.N_drew));exact q):P:=f q
theorem zVR {P Q:Prop}(q:Q)(f:Q → P:=by intro q;(with_reducible repeat(first|apply Kd.R_alloc|apply Kd.R_drewN|apply Kd.R_drew));exact q):P:=f q
theorem zVS {P Q:Prop}(q:Q)(f:Q → P:=by intro q;(with_reducible repeat(first|apply Kd.S_alloc|apply Kd.S_drewN|apply Kd.S_drew));exact q):P:=f q
theorem zVV {P Q:Prop}(q:Q)(f:Q → P:=by intro q;(with_reducible repeat(first|apply Kd.V_alloc|apply Kd.V_drewN|apply Kd.V_drew));exact q):P:=f q
theorem zfar {w:World}{g b j:Nat}{t:TypeId}{cs:Array Value}(h:w.heap[g]?=some (.cells cs t (0,0)))(hp:Aside0 (g ≠ b))(u:Value):(w.setCell ⟨b,j,none⟩ u).heap[g]?=some (.cells cs t (0,0)):=blk_far h hp.out u
theorem zP2 {w:World}{g:Nat}{t:TypeId}{c0 c1 a0 a1:Value}(h:w.heap[g]?=some (.cells #[c0,c1] t (0,0))):((w.setCell ⟨g,0,none⟩ a0).setCell ⟨g,1,none⟩ a1).heap[g]?=some (.cells #[a0,a1] t (0,0)):=(blk_put (cs':=#[a0,a1]) (blk_put (cs':=#[a0,c1]) h 0 a0 rfl) 1 a1 rfl)
theorem zP4 {w:World}{g:Nat}{t:TypeId}{c0 c1 c2 c3 a0 a1 a2 a3:Value}(h:w.heap[g]?=some (.cells #[c0,c1,c2,c3] t (0,0))):((((w.setCell ⟨g,0,none⟩ a0).setCell ⟨g,1,none⟩ a1).setCell ⟨g,2,none⟩ a2).setCell ⟨g,3,none⟩ a3).heap[g]?=some (.cells #[a0,a1,a2,a3] t (0,0)):=(blk_put (cs':=#[a0,a1,a2,a3]) (blk_put (cs':=#[a0,a1,a2,c3]) (blk_put (cs':=#[a0,a1,c2,c3]) (blk_put (cs':=#[a0,c1,c2,c3]) h 0 a0 rfl) 1 a1 rfl) 2 a2 rfl) 3 a3 rfl)
theorem zP5 {w:World}{g:Nat}{t:TypeId}{c0 c1 c2 c3 c4 a0 a1 a2 a3 a4:Value}(h:w.heap[g]?=some (.cells #[c0,c1,c2,c3,c4] t (0,0))):(((((w.setCell ⟨g,0,none⟩ a0).setCell ⟨g,1,none⟩ a1).setCell ⟨g,2,none⟩ a2).setCell ⟨g,3,none⟩ a3).setCell ⟨g,4,none⟩ a4).heap[g]?=some (.cells #[a0,a1,a2,a3,a4] t (0,0)):=(blk_put (cs':=#[a0,a1,a2,a3,a4]) (blk_put (cs':=#[a0,a1,a2,a3,c4]) (blk_put (cs':=#[a0,a1,a2,c3,c4]) (blk_put (cs':=#[a0,a1,c2,c3,c4]) (blk_put (cs':=#[a0,c1,c2,c3,c4]) h 0 a0 rfl) 1 a1 rfl) 2 a2 rfl) 3 a3 rfl) 4 a4 rfl)
theorem zP9 {w:World}{g:Nat}{t:TypeId}{c0 c1 c2 c3 c4 c5 c6 c7 c8 a0 a1 a2 a3 a4 a5 a6 a7 a8:Value}(h:w.heap[g]?=some (.cells #[c0,c1,c2,c3,c4,c5,c6,c7,c8] t (0,0))):(((((((((w.setCell ⟨g,0,none⟩ a0).setCell ⟨g,1,none⟩ a1).setCell ⟨g,2,none⟩ a2).setCell ⟨g,3,none⟩ a3).setCell ⟨g,4,none⟩ a4).setCell ⟨g,5,none⟩ a5).setCell ⟨g,6,none⟩ a6).setCell ⟨g,7,none⟩ a7).setCell ⟨g,8,none⟩ a8).heap[g]?=some (.cells #[a0,a1,a2,a3,a4,a5,a6,a7,a8] t (0,0)):=(blk_put (cs':=#[a0,a1,a2,a3,a4,a5,a6,a7,a8]) (blk_put (cs':=#[a0,a1,a2,a3,a4,a5,a6,a7,c8]) (blk_put (cs':=#[a0,a1,a2,a3,a4,a5,a6,c7,c8]) (blk_put (cs':=#[a0,a1,a2,a3,a4,a5,c6,c7,c8]) (blk_put (cs':=#[a0,a1,a2,a3,a4,c5,c6,c7,c8]) (blk_put (cs':=#[a0,a1,a2,a3,c4,c5,c6,c7,c8]) (blk_put (cs':=#[a0,a1,a2,c3,c4,c5,c6,c7,c8]) (blk_put (cs':=#[a0,a1,c2,c3,c4,c5,c6,c7,c8]) (blk_put (cs':=#[a0,c1,c2,c3,c4,c5,c6,c7,c8]) h 0 a0 rfl) 1 a1 rfl) 2 a2 rfl) 3 a3 rfl) 4 a4 rfl) 5 a5 rfl) 6 a6 rfl) 7 a7 rfl) 8 a8 rfl)
theorem zG {P Q:Prop}(q:Q)(f:Q → P:=by intro q;(with_reducible repeat(first|refine blk_drewN ?_ _|refine blk_drew ?_|refine blk_alloc ?_ _));first|(with_reducible exact zP2 q)|(with_reducible exact zP4 q)|(with_reducible exact zP5 q)|(with_reducible exact zP9 q)|((repeat(first|(with_reducible first|refine blk_drewN ?_ _|refine blk_drew ?_|refine blk_alloc ?_ _)|(with_reducible apply zfar;case hp=>with_reducible assumption)|(with_reducible apply blk_put)|(apply zfar;case hp=>with_reducible assumption)|apply blk_put));exact q;all_goals rfl)):P:=f q
theorem zc2 {w:World}{g:Nat}{t:TypeId}{a0 a1:Value}(h:w.heap[g]?=some (.cells #[a0,a1] t (0,0))):w.cell? ⟨g,0,none⟩=some a0 ∧ w.cell? ⟨g,1,none⟩=some a1:=⟨zq0 h 0,zq0 h 1⟩
theorem zc4 {w:World}{g:Nat}{t:TypeId}{a0 a1 a2 a3:Value}(h:w.heap[g]?=some (.cells #[a0,a1,a2,a3] t (0,0))):w.cell? ⟨g,0,none⟩=some a0 ∧ w.cell? ⟨g,1,none⟩=some a1 ∧ w.cell? ⟨g,2,none⟩=some a2 ∧ w.cell? ⟨g,3,none⟩=some a3:=⟨zq0 h 0,zq0 h 1,zq0 h 2,zq0 h 3⟩
theorem zc5 {w:World}{g:Nat}{t:TypeId}{a0 a1 a2 a3 a4:Value}(h:w.heap[g]?=some (.cells #[a0,a1,a2,a3,a4] t (0,0))):w.cell? ⟨g,0,none⟩=some a0 ∧ w.cell? ⟨g,1,none⟩=some a1 ∧ w.cell? ⟨g,2,none⟩=some a2 ∧ w.cell? ⟨g,3,none⟩=some a3 ∧ w.cell? ⟨g,4,none⟩=some a4:=⟨zq0 h 0,zq0 h 1,zq0 h 2,zq0 h 3,zq0 h 4⟩
theorem zc9 {w:World}{g:Nat}{t:TypeId}{a0 a1 a2 a3 a4 a5 a6 a7 a8:Value}(h:w.heap[g]?=some (.cells #[a0,a1,a2,a3,a4,a5,a6,a7,a8] t (0,0))):w.cell? ⟨g,0,none⟩=some a0 ∧ w.cell? ⟨g,1,none⟩=some a1 ∧ w.cell? ⟨g,2,none⟩=some a2 ∧ w.cell? ⟨g,3,none⟩=some a3 ∧ w.cell? ⟨g,4,none⟩=some a4 ∧ w.cell? ⟨g,5,none⟩=some a5 ∧ w.cell? ⟨g,6,none⟩=some a6 ∧ w.cell? ⟨g,7,none⟩=some a7 ∧ w.cell? ⟨g,8,none⟩=some a8:=⟨zq0 h 0,zq0 h 1,zq0 h 2,zq0 h 3,zq0 h 4,zq0 h 5,zq0 h 6,zq0 h 7,zq0 h 8⟩
theorem zf2 {w:World}{g:Nat}{t:TypeId}{cs:Array Value}(h:w.heap[g]?=some (.cells cs t (0,0))):w.frozen? ⟨g,0,none⟩=false ∧ w.frozen? ⟨g,1,none⟩=false:=⟨zq11 h 0,zq11 h 1⟩
theorem zf4 {w:World}{g:Nat}{t:TypeId}{cs:Array Value}(h:w.heap[g]?=some (.cells cs t (0,0))):w.frozen? ⟨g,0,none⟩=false ∧ w.frozen? ⟨g,1,none⟩=false ∧ w.frozen? ⟨g,2,none⟩=false ∧ w.frozen? ⟨g,3,none⟩=false:=⟨zq11 h 0,zq11 h 1,zq11 h 2,zq11 h 3⟩
theorem zf5 {w:World}{g:Nat}{t:TypeId}{cs:Array Value}(h:w.heap[g]?=some (.cells cs t (0,0))):w.frozen? ⟨g,0,none⟩=false ∧ w.frozen? ⟨g,1,none⟩=false ∧ w.frozen? ⟨g,2,none⟩=false ∧ w.frozen? ⟨g,3,none⟩=false ∧ w.frozen? ⟨g,4,none⟩=false:=⟨zq11 h 0,zq11 h 1,zq11 h 2,zq11 h 3,zq11 h 4⟩
theorem zf9 {w:World}{g:Nat}{t:TypeId}{cs:Array Value}(h:w.heap[g]?=some (.cells cs t (0,0))):w.frozen? ⟨g,0,none⟩=false ∧ w.frozen? ⟨g,1,none⟩=false ∧ w.frozen? ⟨g,2,none⟩=false ∧ w.frozen? ⟨g,3,none⟩=false ∧ w.frozen? ⟨g,4,none⟩=false ∧ w.frozen? ⟨g,5,none⟩=false ∧ w.frozen? ⟨g,6,none⟩=false ∧ w.frozen? ⟨g,7,none⟩=false ∧ w.frozen? ⟨g,8,none⟩=false:=⟨zq11 h 0,zq11 h 1,zq11 h 2,zq11 h 3,zq11 h 4,zq11 h 5,zq11 h 6,zq11 h 7,zq11 h 8⟩
theorem zE {P:Program}{ops:Array Oper}{rest:List Oper}{o:Oper}{a:Act}{Q:Exit → Act → World → Prop}{W:World}{N:Tmp}{cs:Array Value}{t:TypeId}(h:∀ g,g=W.heap.size → ∀ w1,w1.heap[g]?=some (.cells cs t (0,0)) → Below W.heap.size W w1 → wpList P ops Q rest (a.put o.dst (.pointer (some ⟨g,0,none⟩))) w1)(hg:o.guard=none:=by rfl)(hd:o.dst=some N:=by rfl)(hr:(execOp a.eval o).run P W=.ok (.value (.pointer (some ⟨W.heap.size,0,none⟩))) (W.alloc (.cells cs t (0,0))):=by first|(go_simp;done)|(go_simp;rfl)):wpList P ops Q (o::rest) a W:=box_event hg hd hr h
theorem zR2 {α:Type}{d:Kd α}{e:Nat}{w:World}{base:Nat}{ok:Nat → Prop}{v:Value}{xs:List α}(g:Nat)(h:d.R e w base (fun k=>ok k∧k≠g) v xs)(u0 u1:Value):d.R e ((w.setCell ⟨g,0,none⟩ u0).setCell ⟨g,1,none⟩ u1) base (fun k=>ok k∧k≠g) v xs:=(Kd.z4 (p:=⟨g,1,none⟩) (Kd.z4 (p:=⟨g,0,none⟩) h (fun _ hk=>hk.2) u0) (fun _ hk=>hk.2) u1)
theorem zR4 {α:Type}{d:Kd α}{e:Nat}{w:World}{base:Nat}{ok:Nat → Prop}{v:Value}{xs:List α}(g:Nat)(h:d.R e w base (fun k=>ok k∧k≠g) v xs)(u0 u1 u2 u3:Value):d.R e ((((w.setCell ⟨g,0,none⟩ u0).setCell ⟨g,1,none⟩ u1).setCell ⟨g,2,none⟩ u2).setCell ⟨g,3,none⟩ u3) base (fun k=>ok k∧k≠g) v xs:=(Kd.z4 (p:=⟨g,3,none⟩) (Kd.z4 (p:=⟨g,2,none⟩) (Kd.z4 (p:=⟨g,1,none⟩) (Kd.z4 (p:=⟨g,0,none⟩) h (fun _ hk=>hk.2) u0) (fun _ hk=>hk.2) u1) (fun _ hk=>hk.2) u2) (fun _ hk=>hk.2) u3)
theorem zR5 {α:Type}{d:Kd α}{e:Nat}{w:World}{base:Nat}{ok:Nat → Prop}{v:Value}{xs:List α}(g:Nat)(h:d.R e w base (fun k=>ok k∧k≠g) v xs)(u0 u1 u2 u3 u4:Value):d.R e (((((w.setCell ⟨g,0,none⟩ u0).setCell ⟨g,1,none⟩ u1).setCell ⟨g,2,none⟩ u2).setCell ⟨g,3,none⟩ u3).setCell ⟨g,4,none⟩ u4) base (fun k=>ok k∧k≠g) v xs:=(Kd.z4 (p:=⟨g,4,none⟩) (Kd.z4 (p:=⟨g,3,none⟩) (Kd.z4 (p:=⟨g,2,none⟩) (Kd.z4 (p:=⟨g,1,none⟩) (Kd.z4 (p:=⟨g,0,none⟩) h (fun _ hk=>hk.2) u0) (fun _ hk=>hk.2) u1) (fun _ hk=>hk.2) u2) (fun _ hk=>hk.2) u3) (fun _ hk=>hk.2) u4)
theorem zR9 {α:Type}{d:Kd α}{e:Nat}{w:World}{base:Nat}{ok:Nat → Prop}{v:Value}{xs:List α}(g:Nat)(h:d.R e w base (fun k=>ok k∧k≠g) v xs)(u0 u1 u2 u3 u4 u5 u6 u7 u8:Value):d.R e (((((((((w.setCell ⟨g,0,none⟩ u0).setCell ⟨g,1,none⟩ u1).setCell ⟨g,2,none⟩ u2).setCell ⟨g,3,none⟩ u3).setCell ⟨g,4,none⟩ u4).setCell ⟨g,5,none⟩ u5).setCell ⟨g,6,none⟩ u6).setCell ⟨g,7,none⟩ u7).setCell ⟨g,8,none⟩ u8) base (fun k=>ok k∧k≠g) v xs:=(Kd.z4 (p:=⟨g,8,none⟩) (Kd.z4 (p:=⟨g,7,none⟩) (Kd.z4 (p:=⟨g,6,none⟩) (Kd.z4 (p:=⟨g,5,none⟩) (Kd.z4 (p:=⟨g,4,none⟩) (Kd.z4 (p:=⟨g,3,none⟩) (Kd.z4 (p:=⟨g,2,none⟩) (Kd.z4 (p:=⟨g,1,none⟩) (Kd.z4 (p:=⟨g,0,none⟩) h (fun _ hk=>hk.2) u0) (fun _ hk=>hk.2) u1) (fun _ hk=>hk.2) u2) (fun _ hk=>hk.2) u3) (fun _ hk=>hk.2) u4) (fun _ hk=>hk.2) u5) (fun _ hk=>hk.2) u6) (fun _ hk=>hk.2) u7) (fun _ hk=>hk.2) u8)
theorem zr {α:Type}{d:Kd α}{e:Nat}{w w1:World}{base:Nat}{ok:Nat → Prop}{v:Value}{xs:List α}(h:d.R e w base ok v xs)(f:d.R e w base ok v xs → d.R e w1 base ok v xs:=by intro q;(with_reducible repeat(first|apply Kd.R_alloc|apply Kd.R_drewN|apply Kd.R_drew));exact q):d.R e w1 base ok v xs:=f h
theorem zO {α β:Type}{e:α}{f:α → Option β}{r:β}(H:(some e).bind f=some r):∃ y,Aside0 (y=e)∧f y=some r:=⟨e,⟨rfl⟩,H⟩
theorem zM {α β:Type}{x:Option α}{f:α → Option β}{r:β}(H:x.bind f=some r):∃ a,Aside0 (x=some a)∧f a=some r:=let⟨a,h,g⟩:=Option.bind_eq_some_iff.mp H;⟨a,⟨h⟩,g⟩
theorem zM0 {α β:Type}{x:Option α}{f:α → Option β}{r:β}(H:x.bind f=some r):∃ a,x=some a∧f a=some r:=Option.bind_eq_some_iff.mp H
theorem zp {α:Type}{c P:Prop}[Decidable c]{x:Option α}{r:α}(H:(if c then x else none)=some r)(k:c → P):P∧x=some r:=by
 by_cases h:c
 ·rw[if_pos h]at H;exact⟨k h,H⟩
 ·rw[if_neg h]at H;cases H
theorem zn {α:Type}{c P:Prop}[Decidable c]{x:Option α}{r:α}(H:(if c then none else x)=some r)(k:¬c → P):P∧x=some r:=by
 by_cases h:c
 ·rw[if_pos h]at H;cases H
 ·rw[if_neg h]at H;exact⟨k h,H⟩
theorem zf {α:Type}{c P Q:Prop}[Decidable c]{x y:Option α}{r:α}(H:(if c then x else y)=some r)(k:¬c → P)(l:c → Q):(P∧y=some r)∨(Q∧x=some r):=by
 by_cases h:c
 ·rw[if_pos h]at H;exact .inr ⟨l h,H⟩
 ·rw[if_neg h]at H;exact .inl ⟨k h,H⟩
theorem zh {α:Type}{c P Q:Prop}[Decidable c]{x y:Option α}{r:α}(H:(if c then x else y)=some r)(l:c → Q)(k:¬c → P):(Q∧x=some r)∨(P∧y=some r):=(zf H k l).symm
theorem zb {α:Type}{b:Bool}{x y:Option α}{r:α}(H:(if b=true then x else y)=some r):(b=false∧y=some r)∨(b=true∧x=some r):=by
 cases b
 ·exact .inl ⟨rfl,H⟩
 ·exact .inr ⟨rfl,H⟩
theorem zbp {α:Type}{b:Bool}{x y:Option α}{r:α}(H:(if b=true then x else y)=some r):(b=true∧x=some r)∨(b=false∧y=some r):=(zb H).symm
theorem zd6 {p:Prop}(h:p):p:=h
theorem zs {α:Type}{a b:α}(h:some a=some b):a=b:=Option.some.inj h
theorem zs2 {α0 α1:Type}{a0 b0:α0}{a1 b1:α1}(h:some (a0,a1)=some (b0,b1)):a0=b0∧a1=b1:=by cases h;exact⟨rfl,rfl⟩
theorem zs3 {α0 α1 α2:Type}{a0 b0:α0}{a1 b1:α1}{a2 b2:α2}(h:some (a0,a1,a2)=some (b0,b1,b2)):a0=b0∧a1=b1∧a2=b2:=by cases h;exact⟨rfl,rfl,rfl⟩
theorem zs5 {α0 α1 α2 α3 α4:Type}{a0 b0:α0}{a1 b1:α1}{a2 b2:α2}{a3 b3:α3}{a4 b4:α4}(h:some (a0,a1,a2,a3,a4)=some (b0,b1,b2,b3,b4)):a0=b0∧a1=b1∧a2=b2∧a3=b3∧a4=b4:=by cases h;exact⟨rfl,rfl,rfl,rfl,rfl⟩
theorem zs9 {α0 α1 α2 α3 α4 α5 α6 α7 α8:Type}{a0 b0:α0}{a1 b1:α1}{a2 b2:α2}{a3 b3:α3}{a4 b4:α4}{a5 b5:α5}{a6 b6:α6}{a7 b7:α7}{a8 b8:α8}(h:some (a0,a1,a2,a3,a4,a5,a6,a7,a8)=some (b0,b1,b2,b3,b4,b5,b6,b7,b8)):a0=b0∧a1=b1∧a2=b2∧a3=b3∧a4=b4∧a5=b5∧a6=b6∧a7=b7∧a8=b8:=by cases h;exact⟨rfl,rfl,rfl,rfl,rfl,rfl,rfl,rfl,rfl⟩
theorem zs10 {α0 α1 α2 α3 α4 α5 α6 α7 α8 α9:Type}{a0 b0:α0}{a1 b1:α1}{a2 b2:α2}{a3 b3:α3}{a4 b4:α4}{a5 b5:α5}{a6 b6:α6}{a7 b7:α7}{a8 b8:α8}{a9 b9:α9}(h:some (a0,a1,a2,a3,a4,a5,a6,a7,a8,a9)=some (b0,b1,b2,b3,b4,b5,b6,b7,b8,b9)):a0=b0∧a1=b1∧a2=b2∧a3=b3∧a4=b4∧a5=b5∧a6=b6∧a7=b7∧a8=b8∧a9=b9:=by cases h;exact⟨rfl,rfl,rfl,rfl,rfl,rfl,rfl,rfl,rfl,rfl⟩
theorem zkENg {a b:Int}(h:¬(a≥b)):decide (b≤a)=false:=decide_eq_false h
theorem zkENgk {a b:Int}(h:¬(a≥b)):decide (b≤a)=false∧(¬(a≥b)):=⟨decide_eq_false h,h⟩
theorem zkEg {a b:Int}(h:a≥b):decide (b≤a)=true:=decide_eq_true h
theorem zkEgk {a b:Int}(h:a≥b):decide (b≤a)=true∧(a≥b):=⟨decide_eq_true h,h⟩
theorem zkGNg {a b:Int}(h:¬(a>b)):decide (b<a)=false:=decide_eq_false h
theorem zkGNgk {a b:Int}(h:¬(a>b)):decide (b<a)=false∧(¬(a>b)):=⟨decide_eq_false h,h⟩
theorem zkGg {a b:Int}(h:a>b):decide (b<a)=true:=decide_eq_true h
theorem zkGgk {a b:Int}(h:a>b):decide (b<a)=true∧(a>b):=⟨decide_eq_true h,h⟩
theorem zkLtdlk {a b:Nat}(h:a≤b):(a≤b)=True∧decide (a≤b)=true∧(b<a)=False∧(a≤b):=⟨eq_true h,decide_eq_true h,eq_false (Nat.not_lt.2 h),h⟩
theorem zkLtdlkk {a b:Nat}(h:a≤b):(a≤b)=True∧decide (a≤b)=true∧(b<a)=False∧(a≤b)∧(a≤b):=⟨eq_true h,decide_eq_true h,eq_false (Nat.not_lt.2 h),h,h⟩
theorem zkNd {c:Prop}[Decidable c](h:¬c):decide (c)=false:=decide_eq_false h
theorem zkNdk {c:Prop}[Decidable c](h:¬c):decide (c)=false∧(¬c):=⟨decide_eq_false h,h⟩
theorem zkQNqnk {α:Type}[BEq α][LawfulBEq α]{a b:α}(h:¬(a=b)):(a==b)=false∧(a != b)=true∧(¬(a=b)):=⟨beq_eq_false_iff_ne.mpr h,bne_iff_ne.mpr h,h⟩
theorem zkQqn {α:Type}[BEq α][LawfulBEq α]{a b:α}(h:a=b):(a==b)=true∧(a != b)=false:=⟨beq_iff_eq.mpr h,bne_eq_false_iff_eq.mpr h⟩
theorem zkQqnk {α:Type}[BEq α][LawfulBEq α]{a b:α}(h:a=b):(a==b)=true∧(a != b)=false∧(a=b):=⟨beq_iff_eq.mpr h,bne_eq_false_iff_eq.mpr h,h⟩
theorem zkd {c:Prop}[Decidable c](h:c):decide (c)=true:=decide_eq_true h
theorem zkdk {c:Prop}[Decidable c](h:c):decide (c)=true∧(c):=⟨decide_eq_true h,h⟩
theorem zktd {c:Prop}[Decidable c](h:c):(c)=True∧decide (c)=true:=⟨eq_true h,decide_eq_true h⟩
theorem zC {P Q:Prop}(q:Q)(f:Q → P:=by intro q;repeat(first|exact q|(with_reducible refine Kd.C_alloc ?_ _)|(with_reducible refine Kd.C_drewN ?_ _)|(with_reducible refine Kd.C_drew ?_))):P:=f q
theorem zg {P:Prop}(h:P:=by first|(with_reducible exact HG.out)|((with_reducible repeat(first|exact HG.out|apply GOK.drewN|apply GOK.drew));done)|exact GOK.below HG.out zB):P:=h
theorem zNil {P:Prop}(h:P:=by first|exact Kd.R_nil _ _ _ _ _|exact Kd.N_nil _ _ _ _ _|exact Kd.V_nil _ _ _ _ _|exact Kd.Q_nil _ _ _ _ _|exact Kd.S_nil _ _ _ _ _):P:=h
theorem zT {P:Prop}(h:P:=by first|rfl|(simp[errW_none,errW_some]<;>rfl)|(simp[*,errW_none,errW_some]<;>rfl)):P:=h
theorem zY0 {P:Prop}(h:P:=by(try simp only[zL3,zL4,zL5]);first|done|rfl|(simp only[zL6,zL7];rfl)):P:=h
theorem zY1 {P:Prop}(h:P:=by kernel_rfl):P:=h
theorem zY2 {P:Prop}(h:P:=by decide):P:=h
theorem zY3 {P:Prop}(h:P:=by first|rfl|(simp;done)|(simp[*];done)):P:=h
theorem zY4 {P:Prop}(h:P:=by repeat(first|(with_reducible exact ik.out)|(with_reducible refine Kd.C_alloc ?_ _)|(with_reducible refine Kd.C_drewN ?_ _)|(with_reducible refine Kd.C_drew ?_)|exact ik.out)):P:=h
theorem zY5 {P:Prop}(h:P:=by repeat(first|(with_reducible exact il.out)|(with_reducible refine Kd.C_alloc ?_ _)|(with_reducible refine Kd.C_drewN ?_ _)|(with_reducible refine Kd.C_drew ?_)|exact il.out)):P:=h
theorem zY6 {P:Prop}(h:P:=by first|exact Kd.z18 (Kd.R_ne bX.out cn.out (by decide))|(rw[zq8];exact Kd.z18 (Kd.R_ne bX.out cn.out (by decide)))|(show(Addr.add _ _).block≠_;rw[zq8];exact Kd.z18 (Kd.R_ne bX.out cn.out (by decide)))|(dsimp only;exact Kd.z18 (Kd.R_ne bX.out cn.out (by decide)))):P:=h
theorem zY7 {P:Prop}(h:P:=by omega):P:=h
theorem zY8 {P:Prop}(h:P:=by repeat(first|(with_reducible first|exact HB.out|apply below_alloc|apply pw_below_drewN|apply zq19|refine below_set ?_ (IsS106.ge HI278.out))|exact HB.out)):P:=h
theorem zY9 {P:Prop}(h:P:=by exact zr (Kd.z6 (zR9 ez (Kd.z9 gt.out cH.out (by decide)) (.int .i64 ed) (.int .i64 ee) (.string ef) (.string eg) (.int .i64 eh) (.string ei) (.string ej) (.slice dK dp.length dx) (.slice ek dq.length dZ)) (fun _ h_=>h_.1))):P:=h
theorem zY10 {P:Prop}(h:P:=by exact zr (Kd.z6 (zR9 ez (Kd.z9 gu.out cH.out (by decide)) (.int .i64 ed) (.int .i64 ee) (.string ef) (.string eg) (.int .i64 eh) (.string ei) (.string ej) (.slice dK dp.length dx) (.slice ek dq.length dZ)) (fun _ h_=>h_.1))):P:=h
theorem zY11 {P:Prop}(h:P:=by exact zr (Kd.z6 (zR9 ez (Kd.z9 jr.out cH.out (by decide)) (.int .i64 ed) (.int .i64 ee) (.string ef) (.string eg) (.int .i64 eh) (.string ei) (.string ej) (.slice dK dp.length dx) (.slice ek dq.length dZ)) (fun _ h_=>h_.1))):P:=h
theorem zY12 {P:Prop}(h:P:=by exact zr (Kd.z6 (zR9 ez (Kd.z9 js.out cH.out (by decide)) (.int .i64 ed) (.int .i64 ee) (.string ef) (.string eg) (.int .i64 eh) (.string ei) (.string ej) (.slice dK dp.length dx) (.slice ek dq.length dZ)) (fun _ h_=>h_.1))):P:=h
theorem zY13 {P:Prop}(h:P:=by simp):P:=h
theorem zY14 {P:Prop}(h:P:=by first|(rw[zq8];exact rV)|(show(Addr.add _ _).block≠_;rw[zq8];exact rV)|exact rV):P:=h
theorem zY15 {P:Prop}(h:P:=by first|(rw[zq8];exact rW)|(show(Addr.add _ _).block≠_;rw[zq8];exact rW)|exact rW):P:=h
theorem zY16 {P:Prop}(h:P:=by first|(rw[zq8];exact rX)|(show(Addr.add _ _).block≠_;rw[zq8];exact rX)|exact rX):P:=h
theorem zY17 {P:Prop}(h:P:=by first|(rw[zq8];exact rY)|(show(Addr.add _ _).block≠_;rw[zq8];exact rY)|exact rY):P:=h
theorem zY18 {P:Prop}(h:P:=by first|(rw[zq8];exact rZ)|(show(Addr.add _ _).block≠_;rw[zq8];exact rZ)|exact rZ):P:=h
theorem zY19 {P:Prop}(h:P:=by rfl):P:=h
theorem zY20 {P:Prop}(h:P:=by exact zr (Kd.z6 (Kd.z4 (p:=⟨cj,0,none⟩) (Kd.z9 cY.out aU.out (by decide)) (fun _ hk=>hk.2) (.int .i64 2)) (fun _ h_=>h_.1))):P:=h
theorem zY21 {P:Prop}(h:P:=by repeat(first|(with_reducible first|exact HI278.out|apply IsS106.alloc|apply IsS106.drewN|apply IsS106.drew|apply IsS106.set_1)|exact HI278.out)):P:=h
theorem zY22 {P:Prop}(h:P:=by first|(rw[zq8];exact kU)|(show(Addr.add _ _).block≠_;rw[zq8];exact kU)|exact kU):P:=h
theorem zY23 {P:Prop}(h:P:=by exact zr (Kd.z6 (zR9 dR (Kd.z9 bD.out cZ.out (by decide)) (.int .i64 ch) (.int .i64 cu) (.string da) (.string db) (.int .i64 dc) (.string dS) (.string dT) (.slice ni ce.length mw) (.slice nj cS.length lp)) (fun _ h_=>h_.1))):P:=h
theorem zY24 {P:Prop}(h:P:=by exact zr (Kd.z6 (zR9 dR (Kd.z9 ci.out cZ.out (by decide)) (.int .i64 ch) (.int .i64 cu) (.string da) (.string db) (.int .i64 dc) (.string dS) (.string dT) (.slice ni ce.length mw) (.slice nj cS.length lp)) (fun _ h_=>h_.1))):P:=h
theorem zY25 {P:Prop}(h:P:=by exact zr (Kd.z6 (zR9 dR (Kd.z9 bD.out cZ.out (by decide)) (.int .i64 ch) (.int .i64 cu) (.string da) (.string db) (.int .i64 dc) (.string dS) (.string dT) (.slice oy ce.length nk) (.slice im cS.length gB)) (fun _ h_=>h_.1))):P:=h
theorem zY26 {P:Prop}(h:P:=by exact zr (Kd.z6 (zR9 dR (Kd.z9 ci.out cZ.out (by decide)) (.int .i64 ch) (.int .i64 cu) (.string da) (.string db) (.int .i64 dc) (.string dS) (.string dT) (.slice oy ce.length nk) (.slice im cS.length gB)) (fun _ h_=>h_.1))):P:=h
theorem zY27 {P:Prop}(h:P:=by exact zr (Kd.z6 (zR9 dR (Kd.z9 bD.out cZ.out (by decide)) (.int .i64 ch) (.int .i64 cu) (.string da) (.string db) (.int .i64 dc) (.string dS) (.string dT) (.slice cW ce.length cT) (.slice kV cS.length kw)) (fun _ h_=>h_.1))):P:=h
theorem zY28 {P:Prop}(h:P:=by exact zr (Kd.z6 (zR9 dR (Kd.z9 ci.out cZ.out (by decide)) (.int .i64 ch) (.int .i64 cu) (.string da) (.string db) (.int .i64 dc) (.string dS) (.string dT) (.slice cW ce.length cT) (.slice kV cS.length kw)) (fun _ h_=>h_.1))):P:=h
theorem zY29 {P:Prop}(h:P:=by exact zr (Kd.z6 (zR9 jF (Kd.z9 gt.out dd.out (by decide)) (.int .i64 gC) (.int .i64 gD) (.string gE) (.string gF) (.int .i64 gG) (.string gH) (.string gI) (.slice fp eW.length em) (.slice fJ eX.length fb)) (fun _ h_=>h_.1))):P:=h
theorem zY30 {P:Prop}(h:P:=by exact zr (Kd.z6 (zR9 jF (Kd.z9 gu.out dd.out (by decide)) (.int .i64 gC) (.int .i64 gD) (.string gE) (.string gF) (.int .i64 gG) (.string gH) (.string gI) (.slice fp eW.length em) (.slice fJ eX.length fb)) (fun _ h_=>h_.1))):P:=h
theorem zY31 {P:Prop}(h:P:=by exact zr (Kd.z6 (zR4 cp (Kd.z9 dr.out bv.out (by decide)) (.string fk) (.string eE) (.slice none 0 0) (.slice dU ak.length dV)) (fun _ h_=>h_.1))):P:=h
theorem zY32 {P:Prop}(h:P:=by exact zr (Kd.z6 (zR4 cp (Kd.z9 aK.out bv.out (by decide)) (.string fk) (.string eE) (.slice none 0 0) (.slice dU ak.length dV)) (fun _ h_=>h_.1))):P:=h
theorem zY33 {P:Prop}(h:P:=by simp only[putAll,Act.put,zL0,zL1,zL2]):P:=h
theorem zY34 {P:Prop}(h:P:=by repeat(first|(with_reducible first|exact HBW.out|apply below_alloc|apply pw_below_drewN|apply zq19)|exact HBW.out)):P:=h
theorem zY35 {P:Prop}(h:P:=by exact zr (Kd.z6 (Kd.z4 (p:=⟨aN,4,none⟩) (Kd.z4 (p:=⟨aN,0,none⟩) (Kd.z9 fW.out bj.out (by decide)) (fun _ hk=>hk.2) (.int .i64 1)) (fun _ hk=>hk.2) (.int .i64 d5)) (fun _ h_=>h_.1))):P:=h
theorem zY36 {P:Prop}(h:P:=by exact zr (Kd.z6 (Kd.z4 (p:=⟨aN,4,none⟩) (Kd.z4 (p:=⟨aN,0,none⟩) (Kd.z9 aJ.out bj.out (by decide)) (fun _ hk=>hk.2) (.int .i64 1)) (fun _ hk=>hk.2) (.int .i64 d5)) (fun _ h_=>h_.1))):P:=h
theorem zY37 {P:Prop}(h:P:=by first|exact en|exact zw|(have e_:=(Kd.V_reads' ay.out).1;omega)):P:=h
theorem zY38 {P:Prop}(h:P:=by first|(rw[zq8];exact oz)|(show(Addr.add _ _).block≠_;rw[zq8];exact oz)|exact oz):P:=h
theorem zY39 {P:Prop}(h:P:=by first|(rw[zq8];exact oA)|(show(Addr.add _ _).block≠_;rw[zq8];exact oA)|exact oA):P:=h
theorem zY40 {P:Prop}(h:P:=by first|(rw[zq8];exact oB)|(show(Addr.add _ _).block≠_;rw[zq8];exact oB)|exact oB):P:=h
theorem zY41 {P:Prop}(h:P:=by first|(rw[zq8];exact oC)|(show(Addr.add _ _).block≠_;rw[zq8];exact oC)|exact oC):P:=h
theorem zY42 {P:Prop}(h:P:=by first|(rw[zq8];exact oD)|(show(Addr.add _ _).block≠_;rw[zq8];exact oD)|exact oD):P:=h
theorem zY43 {P:Prop}(h:P:=by first|(rw[zq8];exact oE)|(show(Addr.add _ _).block≠_;rw[zq8];exact oE)|exact oE):P:=h
theorem zY44 {P:Prop}(h:P:=by first|(rw[zq8];exact oF)|(show(Addr.add _ _).block≠_;rw[zq8];exact oF)|exact oF):P:=h
theorem zY45 {P:Prop}(h:P:=by first|(rw[zq8];exact oG)|(show(Addr.add _ _).block≠_;rw[zq8];exact oG)|exact oG):P:=h
theorem zY46 {P:Prop}(h:P:=by first|(rw[zq8];exact oH)|(show(Addr.add _ _).block≠_;rw[zq8];exact oH)|exact oH):P:=h
theorem zrV {α:Type}{d:Kd α}{e:Nat}{w w1:World}{base:Nat}{ok:Nat → Prop}{v:Value}{xs:List α}(h:d.V e w base ok v xs)(f:d.V e w base ok v xs → d.V e w1 base ok v xs:=by intro q;(with_reducible repeat(first|apply Kd.V_alloc|apply Kd.V_drewN|apply Kd.V_drew));exact q):d.V e w1 base ok v xs:=f h
theorem zrN {α:Type}{d:Kd α}{e:Nat}{w w1:World}{base:Nat}{ok:Nat → Prop}{v:Value}{xs:List α}(h:d.N e w base ok v xs)(f:d.N e w base ok v xs → d.N e w1 base ok v xs:=by intro q;(with_reducible repeat(first|apply Kd.N_alloc|apply Kd.N_drewN|apply Kd.N_drew));exact q):d.N e w1 base ok v xs:=f h
theorem zrS {α:Type}{d:Kd α}{e:Nat}{w w1:World}{base:Nat}{ok:Nat → Prop}{v:Value}{xs:List α}(h:d.S e w base ok v xs)(f:d.S e w base ok v xs → d.S e w1 base ok v xs:=by intro q;(with_reducible repeat(first|apply Kd.S_alloc|apply Kd.S_drewN|apply Kd.S_drew));exact q):d.S e w1 base ok v xs:=f h
theorem zgw {P:Prop}(h:P:=by first|(with_reducible exact HG.out.weak)|((with_reducible repeat(first|exact HG.out.weak|apply GOK.drewN|apply GOK.drew));done)|exact GOK.below HG.out.weak zB):P:=h
theorem zge {P:Prop}(h:P:=by first|(with_reducible exact HG.out)|((with_reducible repeat(first|exact HG.out|apply GOKE.drewN|apply GOKE.drew));done)|exact GOKE.below HG.out zB):P:=h
theorem zDD {P:Prop}(h:P:=by first|exact⟨rfl,_,World.drewN_drewN _ _ _⟩|exact⟨rfl,_,Eq.trans (World.drewN_drewN _ _ _) (congrArg (World.drewN _) (Nat.add_assoc _ _ _))⟩):P:=h
theorem zw {P:Prop}[Decidable P](h:decide P=true:=by first|(with_reducible assumption)|assumption):P:=of_decide_eq_true h
theorem zJ {P:Program} {ops:Array Oper} {rest:List Oper} {Q:Exit → Act → World → Prop} {oi:Oper} {a:Act} {w:World} (N:Tmp) {f:FuncId} (fn:Func) {as_:Array Operand} {ts:Array TypeId} (args:Array Value) (h:Calls P f args w fun e w'=>∃ v,e=.returned v ∧ wpList P ops Q rest (a.put (some N) v) w') (hd:oi.dst=some N:=by exact rfl) (hg:oi.guard=none:=by exact rfl) (hop:oi.op=.call {callee:=.value (.func f),args:=as_,argTypes:=ts}:=by exact rfl) (hf:P.funcs[f]?=some fn:=by kernel_rfl) (hname:(fn.name == "runtime.NumGoroutine")=false:=by exact rfl) (hb:fn.body.isSome=true:=by exact rfl) (hargs:as_.map a.eval=args:=by (try simp only [List.map_toArray,List.map_cons,List.map_nil]);first|done|rfl|(simp only [List.length_drop,List.length_take];rfl)):wpList P ops Q (oi :: rest) a w:=zq7 (some N) hd hg hf hname hb args hop hargs h
theorem zhb {w W w2:World}(k:Below W.heap.size W w2)(h:Below w.heap.size w W:=by exact zB):Aside0 (Below w.heap.size w w2):=⟨below_step h k⟩
theorem zhk {w w1 w2:World}{g:Nat}{row:Option Nat}(k:KeepBut w1 w2 g row)(h:KeepBut w w1 g row:=by exact zH):Aside0 (KeepBut w w2 g row):=⟨KeepBut.trans h k (.inl rfl)⟩
theorem zhl {w w1 w2:World}{g:Nat}(k:Below w1.heap.size w1 w2)(h:KeepBut w w1 g none:=by exact zH):Aside0 (KeepBut w w2 g none):=⟨KeepBut.trans h (KeepBut.of_below k g none) (.inl rfl)⟩
theorem zEa {P:Program}{ops:Array Oper}{rest:List Oper}{o:Oper}{a:Act}{Q:Exit → Act → World → Prop}{W:World}{N:Tmp}{cs:Array Value}{t:TypeId}(h:∀ g,g=W.heap.size → ∀ w1,Aside0 (w1.heap[g]?=some (.cells cs t (0,0))) → Below W.heap.size W w1 → wpList P ops Q rest (a.put o.dst (.pointer (some ⟨g,0,none⟩))) w1)(hg:o.guard=none:=by rfl)(hd:o.dst=some N:=by rfl)(hr:(execOp a.eval o).run P W=.ok (.value (.pointer (some ⟨W.heap.size,0,none⟩))) (W.alloc (.cells cs t (0,0))):=by first|(go_simp;done)|(go_simp;rfl)):wpList P ops Q (o::rest) a W:=box_event hg hd hr (fun g e w1 hb hl=>h g e w1 ⟨hb⟩ hl)
abbrev zoag3 (n:Nat)(g0:Nat)(g1:Nat)(g2:Nat)(k_:Nat):Prop:=(n≤k_)∧k_≠g0∧k_≠g1∧k_≠g2
abbrev zoas2g3 (n:Nat)(x0:Option Addr)(l0 c0:Nat)(x1:Option Addr)(l1 c1:Nat)(g2:Nat)(g3:Nat)(g4:Nat)(k_:Nat):Prop:=(n≤k_)∧some k_≠(.slice x0 l0 c0:Value).ownBlock∧some k_≠(.slice x1 l1 c1:Value).ownBlock∧k_≠g2∧k_≠g3∧k_≠g4
abbrev zobg3 (a:Nat → Prop)(n:Nat)(g0:Nat)(g1:Nat)(g2:Nat)(k_:Nat):Prop:=(a k_∨n≤k_)∧k_≠g0∧k_≠g1∧k_≠g2
abbrev zobg4 (a:Nat → Prop)(n:Nat)(g0:Nat)(g1:Nat)(g2:Nat)(g3:Nat)(k_:Nat):Prop:=(a k_∨n≤k_)∧k_≠g0∧k_≠g1∧k_≠g2∧k_≠g3
abbrev zobs2g3 (a:Nat → Prop)(n:Nat)(x0:Option Addr)(l0 c0:Nat)(x1:Option Addr)(l1 c1:Nat)(g2:Nat)(g3:Nat)(g4:Nat)(k_:Nat):Prop:=(a k_∨n≤k_)∧some k_≠(.slice x0 l0 c0:Value).ownBlock∧some k_≠(.slice x1 l1 c1:Value).ownBlock∧k_≠g2∧k_≠g3∧k_≠g4
abbrev zobs2g4 (a:Nat → Prop)(n:Nat)(x0:Option Addr)(l0 c0:Nat)(x1:Option Addr)(l1 c1:Nat)(g2:Nat)(g3:Nat)(g4:Nat)(g5:Nat)(k_:Nat):Prop:=(a k_∨n≤k_)∧some k_≠(.slice x0 l0 c0:Value).ownBlock∧some k_≠(.slice x1 l1 c1:Value).ownBlock∧k_≠g2∧k_≠g3∧k_≠g4∧k_≠g5
abbrev zobs3g3 (a:Nat → Prop)(n:Nat)(x0:Option Addr)(l0 c0:Nat)(x1:Option Addr)(l1 c1:Nat)(x2:Option Addr)(l2 c2:Nat)(g3:Nat)(g4:Nat)(g5:Nat)(k_:Nat):Prop:=(a k_∨n≤k_)∧some k_≠(.slice x0 l0 c0:Value).ownBlock∧some k_≠(.slice x1 l1 c1:Value).ownBlock∧some k_≠(.slice x2 l2 c2:Value).ownBlock∧k_≠g3∧k_≠g4∧k_≠g5
abbrev zobsg3 (a:Nat → Prop)(n:Nat)(x0:Option Addr)(l0 c0:Nat)(g1:Nat)(g2:Nat)(g3:Nat)(k_:Nat):Prop:=(a k_∨n≤k_)∧some k_≠(.slice x0 l0 c0:Value).ownBlock∧k_≠g1∧k_≠g2∧k_≠g3
abbrev zobsg4 (a:Nat → Prop)(n:Nat)(x0:Option Addr)(l0 c0:Nat)(g1:Nat)(g2:Nat)(g3:Nat)(g4:Nat)(k_:Nat):Prop:=(a k_∨n≤k_)∧some k_≠(.slice x0 l0 c0:Value).ownBlock∧k_≠g1∧k_≠g2∧k_≠g3∧k_≠g4
end Go.Proofs.YtjdpdkdhfnpcgaaGreatDoor.Q
