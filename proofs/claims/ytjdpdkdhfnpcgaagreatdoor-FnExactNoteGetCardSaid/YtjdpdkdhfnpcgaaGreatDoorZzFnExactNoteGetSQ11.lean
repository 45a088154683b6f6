/- Of a text of ours what this claim needs. -/
import Derived.Test.YtjdpdkdhfnpcgaaGreatDoorZzFnExactNoteGetSQ0
import Derived.Test.YtjdpdkdhfnpcgaaGreatDoorZzFnExactNoteGetSAu
import Derived.Test.YtjdpdkdhfnpcgaaGreatDoorZzFnExactNoteGetSQ1
import Derived.Test.YtjdpdkdhfnpcgaaGreatDoorZzFnExactNoteGetSQ7
import Derived.Test.YtjdpdkdhfnpcgaaGreatDoorZzFnExactNoteGetSQ10
import Derived.Test.YtjdpdkdhfnpcgaaGreatDoorZzFnExactNoteGetSHSplit
namespace Go.Proofs.YtjdpdkdhfnpcgaaGreatDoor.Q
open Go.RowKit Go.Proofs.YtjdpdkdhfnpcgaaGreatDoorW.PrintWords Go.Proofs.YtjdpdkdhfnpcgaaGreatDoorW.PrintLast Go.Proofs.YtjdpdkdhfnpcgaaGreatDoorW.PrintMore
attribute [local go_sem] max2_int min2_int max_two min_two max_three min_three max_four min_four
set_option linter.unusedVariables false
set_option linter.unusedSimpArgs false
attribute [local go_sem high] eqA24
def impl_within.f (a0:Int) (a1:Int) (a2:Int):Option (Bool):=if a0≥a1 then (some (decide (a0≤a2))) else (some false)
set_option maxHeartbeats 8000000 in
set_option maxRecDepth 100000 in
theorem impl_within.calls (a0:Int) (a1:Int) (a2:Int) (r:Bool) (w:World) (h:impl_within.f a0 a1 a2=some r) :
 Calls Tryz.prog 27 #[.int .i64 a0,.int .i64 a1,.int .i64 a2] w fun e w'=>e=.returned (.bool r)∧Drawn0 w w':=by
 have H:(if a0≥a1 then (some (decide (a0≤a2))) else (some false))=some r:=h
 clear h
 by_cases c4:a0≥a1
 ·rw [if_pos c4] at H
  have c4b0:decide (a1≤a0)=true:=decide_eq_true c4
  clear c4
  obtain rfl:=Option.some.inj H
  go_enter Tryz.func27,Tryz.ntmps27
  go_wp2
  go_ret
  exact ⟨by first|rfl|(simp;done)|(simp [*];done),by repeat (first|exact Drawn0.refl _|apply Drawn0.step)⟩
 rw [if_neg c4] at H
 have c4b0:decide (a1≤a0)=false:=decide_eq_false c4
 clear c4
 obtain rfl:=Option.some.inj H
 go_enter Tryz.func27,Tryz.ntmps27
 go_wp2
 go_ret
 exact ⟨by first|rfl|(simp;done)|(simp [*];done),by repeat (first|exact Drawn0.refl _|apply Drawn0.step)⟩
def impl_isLabel.f (a0:ByteArray):Option (Bool):=(impl_within.f (a0.size:Int) 1 8).bind fun bP=>(if bP=true then ((strings_Trim.f a0 (⟨#[97,98,99,100,101,102,103,104,105,106,107,108,109,110,111,112,113,114,115,116,117,118,119,120,121,122,48,49,50,51,52,53,54,55,56,57]⟩:ByteArray)).bind fun cM=>(some (cM.toList==([]:List UInt8)))) else (some false))
set_option maxHeartbeats 8000000 in
set_option maxRecDepth 100000 in
theorem impl_isLabel.calls (a0:ByteArray) (r:Bool) (w:World) (h:impl_isLabel.f a0=some r) :
 Calls Tryz.prog 63 #[.string a0] w fun e w'=>e=.returned (.bool r)∧Below w.heap.size w w':=by
 have HB:=zA (Below.refl w.heap.size w)
 have H:((impl_within.f (a0.size:Int) 1 8).bind fun bP=>(if bP=true then ((strings_Trim.f a0 bz15).bind fun cM=>(some (cM.toList==([]:List UInt8)))) else (some false)))=some r:=h
 clear h
 replace H:=Option.bind_eq_some_iff.mp H
 obtain ⟨bP,bv,H⟩:=H
 try dsimp only at H
 have A2:=zA bv
 clear bv
 by_cases c3:bP=true
 rotate_left
 ·replace c3:=Bool.eq_false_iff.mpr c3
  subst c3
  rw [if_neg zfn] at H
  obtain rfl:=Option.some.inj H
  go_enter Tryz.func63,Tryz.ntmps63
  go_wp2_with (first|((with_reducible refine zq2 (f:=27) rfl ?_);refine zq4 (some 5) rfl rfl Tryz.func27 zY2 rfl #[.int .i64 (a0.size:Int),.int .i64 1,.int .i64 8] rfl zY0 ?_;(with_reducible refine (impl_within.calls (a0.size:Int) 1 8 false _ A2.out).mono ?_);rintro e w' ⟨rfl,⟨nd,rfl⟩⟩;refine ⟨_,rfl,?_⟩))
  go_ret
  exact ⟨by first|rfl|(simp [errW_none,errW_some]<;>rfl)|(simp [*,errW_none,errW_some]<;>rfl)|(simp [*,errW_none,errW_some];cases cM.toList<;>rfl),zB⟩
 subst c3
 rw [if_pos rfl] at H
 replace H:=Option.bind_eq_some_iff.mp H
 obtain ⟨cM,ci,H⟩:=H
 try dsimp only at H
 have A4:=zA ci
 clear ci
 obtain rfl:=Option.some.inj H
 go_enter Tryz.func63,Tryz.ntmps63
 go_wp2_with (first|((with_reducible refine zq2 (f:=27) rfl ?_);refine zq4 (some 5) rfl rfl Tryz.func27 zY2 rfl #[.int .i64 (a0.size:Int),.int .i64 1,.int .i64 8] rfl zY0 ?_;(with_reducible refine (impl_within.calls (a0.size:Int) 1 8 true _ A2.out).mono ?_);rintro e w' ⟨rfl,⟨nd,rfl⟩⟩;refine ⟨_,rfl,?_⟩)|(go_at_call 111;(with_reducible refine (strings_Trim.calls a0 bz15 cM _ A4.out).mono ?_);rintro e w5 ⟨rfl,hb⟩;replace HB:=zA (zq0 zB hb);clear hb))
 go_ret
 exact ⟨by first|rfl|(simp [errW_none,errW_some]<;>rfl)|(simp [*,errW_none,errW_some]<;>rfl)|(simp [*,errW_none,errW_some];cases cM.toList<;>rfl),zB⟩
def impl_DomainOk.l0:Nat→List ByteArray→List ByteArray→Int→Int→Option (Bool)
 | 0,_,_,_,_=>none
 | k+1,x3,x8,x9,n4=>if n4 < x9 then (if 0≤n4 then (if n4 < (x8.length:Int) then ((impl_isLabel.f (rdOf ByteArray.empty x8 n4)).bind fun bO=>(if bO=true then (impl_DomainOk.l0 k x3 x8 x9 (wrap64 (n4+1))) else (some false))) else (none)) else (none)) else (some (decide ((x3.length:Int)≤3)))
def impl_DomainOk.f (k:Nat) (a0:ByteArray):Option (Bool):=(strings_Split.f a0 (⟨#[46]⟩:ByteArray)).bind fun bP=>(impl_DomainOk.l0 k bP bP (bP.length:Int) 0)
set_option maxHeartbeats 8000000 in
set_option maxRecDepth 100000 in
theorem impl_DomainOk.calls (k:Nat) (a0:ByteArray) (r:Bool) (w:World) (hG:GOK w) (h:impl_DomainOk.f k a0=some r) :
 Calls Tryz.prog 64 #[.string a0] w fun e w'=>e=.returned (.bool r)∧Below w.heap.size w w':=by
 have HG:=zA hG
 clear hG
 have HB:=zA (Below.refl w.heap.size w)
 have H:((strings_Split.f a0 bz12).bind fun bP=>(impl_DomainOk.l0 k bP bP (bP.length:Int) 0))=some r:=h
 clear h
 replace H:=Option.bind_eq_some_iff.mp H
 obtain ⟨bP,bv,H⟩:=H
 try dsimp only at H
 have A2:=zA bv
 clear bv
 have H':=zA H
 clear H
 go_enter Tryz.func64,Tryz.ntmps64
 go_wp2_with (first|((with_reducible refine zq2 (f:=36) rfl ?_);refine zq4 (some 7) rfl rfl Tryz.func36 zY2 rfl #[.string a0,.string bz12] rfl zY0 ?_;(with_reducible refine (strings_Split.calls a0 bz12 bP _ ?side1 A2.out).mono ?_);(case side1=>exact zg);rintro e w3 ⟨Dh,rfl,ar,hb⟩;refine ⟨_,rfl,?_⟩;have nB:=zA (Kd.z6 ar (zq7 zB));replace HB:=zA (zq0 zB hb);clear hb ar;obtain ⟨lN,lO,uv⟩:=Kd.z9 nB.out;subst uv))
 go_loopg [10] k (fun kq D7 w'=>∃ (fi:Int),D7=.int .i64 fi∧Aside0 (impl_DomainOk.l0 kq bP bP (bP.length:Int) fi=some r)∧Aside0 (kq≤k)∧Aside0 (Kd.R Kd.string 9 w' w.heap.size (fun _=>True) (.slice lN bP.length lO) bP)∧Aside0 (Kd.R Kd.string 9 w' w.heap.size (fun _=>True) (.slice lN bP.length lO) bP)∧Aside0 (Below w.heap.size w w'))
 case atStart=>exact ⟨(0),zY3,H',⟨Nat.le_refl _⟩,⟨zVR nB.out⟩,⟨zVR nB.out⟩,⟨zB⟩⟩
 case round =>
  clear H'
  try clear p2
  try clear c3
  obtain ⟨fi,rfl,HA,HK1,eB,lP,HB⟩:=hrel
  cases gk with
  | zero=>exact absurd HA.out (by simp [impl_DomainOk.l0])
  | succ k1 =>
   have H:=HA.out
   clear HA
   simp only [impl_DomainOk.l0] at H
   by_cases c5:fi < (bP.length:Int)
   rotate_left
   ·rw [if_neg c5] at H
    have c5b0:decide (fi < (bP.length:Int))=false:=decide_eq_false c5
    clear c5
    obtain rfl:=Option.some.inj H
    go_wp2
    go_ret
    exact ⟨zT,zB⟩
   rw [if_pos c5] at H
   have c5b0:decide (fi < (bP.length:Int))=true:=decide_eq_true c5
   clear c5
   obtain ⟨c6,H⟩:=zp H
   have c6b0:decide (0≤fi)=true:=decide_eq_true c6
   clear c6
   obtain ⟨c7,H⟩:=zp H
   have c7b0:decide (fi < (bP.length:Int))=true:=decide_eq_true c7
   clear c7
   replace H:=Option.bind_eq_some_iff.mp H
   obtain ⟨bO,e6,H⟩:=H
   try dsimp only at H
   have A8:=zA e6
   clear e6
   by_cases c9:bO=true
   rotate_left
   ·replace c9:=Bool.eq_false_iff.mpr c9
    subst c9
    rw [if_neg zfn] at H
    obtain rfl:=Option.some.inj H
    have ei:0≤(fi:Int):=of_decide_eq_true zY1
    have ej:fi < (bP.length:Int):=of_decide_eq_true zY1
    obtain ⟨ip,iq,fC⟩:=Kd.z11 (Kd.z8 lP.out).2.2 fi ei ej
    cases iq
    replace ei:=eq_true ei
    replace ej:=eq_true ej
    go_wp2_with (first|((with_reducible refine zq2 (f:=63) rfl ?_);refine zq4 (some 15) rfl rfl Tryz.func63 zY2 rfl #[.string (rdOf ByteArray.empty bP fi)] rfl zY0 ?_;(with_reducible refine (impl_isLabel.calls (rdOf ByteArray.empty bP fi) false _ A8.out).mono ?_);rintro e gv ⟨rfl,hb⟩;refine ⟨_,rfl,?_⟩;replace eB:=zA (Kd.z2 (zVR eB.out) hb);replace lP:=zA (Kd.z2 (zVR lP.out) hb);replace HB:=zA (zq0 zB hb);clear hb))
    go_ret
    exact ⟨zT,zB⟩
   subst c9
   rw [if_pos rfl] at H
   have H':=zA H
   clear H
   have ei:0≤(fi:Int):=of_decide_eq_true zY1
   have ej:fi < (bP.length:Int):=of_decide_eq_true zY1
   obtain ⟨ip,iq,fC⟩:=Kd.z11 (Kd.z8 lP.out).2.2 fi ei ej
   cases iq
   replace ei:=eq_true ei
   replace ej:=eq_true ej
   go_wp2_with (first|((with_reducible refine zq2 (f:=63) rfl ?_);refine zq4 (some 15) rfl rfl Tryz.func63 zY2 rfl #[.string (rdOf ByteArray.empty bP fi)] rfl zY0 ?_;(with_reducible refine (impl_isLabel.calls (rdOf ByteArray.empty bP fi) true _ A8.out).mono ?_);rintro e cv ⟨rfl,hb⟩;refine ⟨_,rfl,?_⟩;replace eB:=zA (Kd.z2 (zVR eB.out) hb);replace lP:=zA (Kd.z2 (zVR lP.out) hb);replace HB:=zA (zq0 zB hb);clear hb))
   go_roundg k1
   case measure=>have:=HK1.out;omega
   case rel=>exact ⟨(wrap64 (fi+1)),zY3,H',⟨by have:=HK1.out;omega⟩,⟨zVR eB.out⟩,⟨zVR lP.out⟩,⟨zB⟩⟩
def impl_AddrOk.f (k:Nat) (aa:ByteArray) (ab:ByteArray):Option (Bool):=(impl_isLabel.f aa).bind fun dZ=>(if dZ=true then ((impl_DomainOk.f k ab).bind fun cX=>(some cX)) else (some false))
set_option maxHeartbeats 8000000 in
set_option maxRecDepth 100000 in
theorem impl_AddrOk.calls (k:Nat) (aa:ByteArray) (ab:ByteArray) (r:Bool) (w:World) (hG:GOK w) (h:impl_AddrOk.f k aa ab=some r) :
 Calls Tryz.prog 28 #[.agg #[.string aa,.string ab]] w fun e w'=>e=.returned (.bool r)∧Below w.heap.size w w':=by
 have hu24:=Tryz.underlying24
 have HG:=zA hG
 clear hG
 have HB:=zA (Below.refl w.heap.size w)
 have H:((impl_isLabel.f aa).bind fun dZ=>(if dZ=true then ((impl_DomainOk.f k ab).bind fun cX=>(some cX)) else (some false)))=some r:=h
 clear h
 replace H:=Option.bind_eq_some_iff.mp H
 obtain ⟨dZ,bv,H⟩:=H
 try dsimp only at H
 have A2:=zA bv
 clear bv
 by_cases c3:dZ=true
 rotate_left
 ·replace c3:=Bool.eq_false_iff.mpr c3
  subst c3
  rw [if_neg zfn] at H
  obtain rfl:=Option.some.inj H
  go_enter Tryz.func28,Tryz.ntmps28
  go_wp2_with (first|((with_reducible refine zq5 (N:=1) rfl ?_);refine zE (N:=1) (cs:=#[.string aa,.string ab]) (t:=24) ?_;intro fa hg cv hbox hb;have bF:=zA hbox;have mO:=zA (zS hg:w.heap.size≤fa);have mP:=zA (zS hg:w.heap.size≤fa);replace HB:=zA (zq0 zB hb);clear hb hbox hg;obtain ⟨_,_⟩:=zc2 bF.out;obtain ⟨_,_⟩:=zf2 bF.out)|((with_reducible refine zq2 (f:=63) rfl ?_);refine zq4 (some 5) rfl rfl Tryz.func63 zY2 rfl #[.string aa] rfl zY0 ?_;(with_reducible refine (impl_isLabel.calls aa false _ A2.out).mono ?_);rintro e gx ⟨rfl,hb⟩;refine ⟨_,rfl,?_⟩;replace bF:=zA (zq1 (zK bF.out) hb);replace HB:=zA (zq0 zB hb);clear hb))
  go_ret
  exact ⟨zT,zB⟩
 subst c3
 rw [if_pos rfl] at H
 replace H:=Option.bind_eq_some_iff.mp H
 obtain ⟨cX,ci,H⟩:=H
 try dsimp only at H
 have A4:=zA ci
 clear ci
 obtain rfl:=Option.some.inj H
 go_enter Tryz.func28,Tryz.ntmps28
 go_wp2_with (first|((with_reducible refine zq5 (N:=1) rfl ?_);refine zE (N:=1) (cs:=#[.string aa,.string ab]) (t:=24) ?_;intro fa hg w5 hbox hb;have bF:=zA hbox;have mO:=zA (zS hg:w.heap.size≤fa);have mP:=zA (zS hg:w.heap.size≤fa);replace HB:=zA (zq0 zB hb);clear hb hbox hg;obtain ⟨_,_⟩:=zc2 bF.out;obtain ⟨_,_⟩:=zf2 bF.out)|((with_reducible refine zq2 (f:=63) rfl ?_);refine zq4 (some 5) rfl rfl Tryz.func63 zY2 rfl #[.string aa] rfl zY0 ?_;(with_reducible refine (impl_isLabel.calls aa true _ A2.out).mono ?_);rintro e w7 ⟨rfl,hb⟩;refine ⟨_,rfl,?_⟩;replace bF:=zA (zq1 (zK bF.out) hb);replace HB:=zA (zq0 zB hb);clear hb;obtain ⟨_,_⟩:=zc2 bF.out;obtain ⟨_,_⟩:=zf2 bF.out)|(go_at_call 64;(with_reducible refine (impl_DomainOk.calls k ab cX _ ?side1 A4.out).mono ?_);(case side1=>exact zg);rintro e w9 ⟨rfl,hb⟩;replace bF:=zA (zq1 (zK bF.out) hb);replace HB:=zA (zq0 zB hb);clear hb))
 go_ret
 exact ⟨zT,zB⟩
def impl_Addr_null.f (aa:ByteArray) (ab:ByteArray):Option (Bool):=some (aa.toList==([]:List UInt8) && (ab.toList==([]:List UInt8)))
set_option maxHeartbeats 8000000 in
set_option maxRecDepth 100000 in
theorem impl_Addr_null.calls (aa:ByteArray) (ab:ByteArray) (r:Bool) (w:World) (h:impl_Addr_null.f aa ab=some r) :
 Calls Tryz.prog 32 #[.agg #[.string aa,.string ab]] w fun e w'=>e=.returned (.bool r)∧Below w.heap.size w w':=by
 have hu24:=Tryz.underlying24
 have HB:=zA (Below.refl w.heap.size w)
 have H:(some (aa.toList==([]:List UInt8) && (ab.toList==([]:List UInt8))))=some r:=h
 clear h
 obtain rfl:=Option.some.inj H
 go_enter Tryz.func32,Tryz.ntmps32
 go_wp2_with (first|((with_reducible refine zq5 (N:=1) rfl ?_);refine zE (N:=1) (cs:=#[.string aa,.string ab]) (t:=24) ?_;intro b3 hg w2 hbox hb;have aI:=zA hbox;have gt:=zA (zS hg:w.heap.size≤b3);have gu:=zA (zS hg:w.heap.size≤b3);replace HB:=zA (zq0 zB hb);clear hb hbox hg;obtain ⟨_,_⟩:=zc2 aI.out;obtain ⟨_,_⟩:=zf2 aI.out))
 go_ret
 exact ⟨zT,zB⟩
def impl_Mail_empty.f (aa:ByteArray) (ab:ByteArray) (af:List (S24)) (ap:List ByteArray):Option (Bool):=(impl_Addr_null.f aa ab).bind fun bR=>(if bR=true then (if (af.length:Int)=0 then (some ((ap.length:Int)==0)) else (some false)) else (some false))
set_option maxHeartbeats 8000000 in
set_option maxRecDepth 100000 in
theorem impl_Mail_empty.calls (aa:ByteArray) (ab:ByteArray) (b9:Option Addr) (b4:Nat) (af:List (S24)) (b5:Option Addr) (b6:Nat) (ap:List ByteArray) (r:Bool) (w:World) (eX:Kd.C k24 w b9 af.length af) (eY:af.length≤b4) (eZ:Kd.C Kd.string w b5 ap.length ap) (e5:ap.length≤b6) (h:impl_Mail_empty.f aa ab af ap=some r) :
 Calls Tryz.prog 29 #[.agg #[.string aa,.string ab,.slice b9 af.length b4,.slice b5 ap.length b6]] w fun e w'=>e=.returned (.bool r)∧Below w.heap.size w w':=by
 have hu28:=Tryz.underlying28
 have hu24:=Tryz.underlying24
 have d6:=zA eX
 have fe:=zA eY
 clear eX eY
 have eP:=zA eZ
 have eQ:=zA e5
 clear eZ e5
 have HB:=zA (Below.refl w.heap.size w)
 have H:((impl_Addr_null.f aa ab).bind fun bR=>(if bR=true then (if (af.length:Int)=0 then (some ((ap.length:Int)==0)) else (some false)) else (some false)))=some r:=h
 clear h
 replace H:=Option.bind_eq_some_iff.mp H
 obtain ⟨bR,bv,H⟩:=H
 try dsimp only at H
 have A2:=zA bv
 clear bv
 by_cases c3:bR=true
 rotate_left
 ·replace c3:=Bool.eq_false_iff.mpr c3
  subst c3
  rw [if_neg zfn] at H
  obtain rfl:=Option.some.inj H
  go_enter Tryz.func29,Tryz.ntmps29
  go_wp2_with (first|((with_reducible refine zq5 (N:=1) rfl ?_);(try (refine gate_guard zY30 ?_;dsimp only));refine zE (N:=1) (cs:=#[.string aa,.string ab,.slice b9 af.length b4,.slice b5 ap.length b6]) (t:=28) ?_;intro dH hg g0 hbox hb;have aN:=zA hbox;have lc:=zA (zS hg:w.heap.size≤dH);have ld:=zA (zS hg:w.heap.size≤dH);replace HB:=zA (zq0 zB hb);clear hb hbox hg;obtain ⟨_,_,_,_⟩:=zc4 aN.out;obtain ⟨_,_,_,_⟩:=zf4 aN.out)|((with_reducible refine zq2 (f:=32) rfl ?_);refine zq4 (some 5) rfl rfl Tryz.func32 zY2 rfl #[.agg #[.string aa,.string ab]] rfl zY0 ?_;(with_reducible refine (impl_Addr_null.calls aa ab false _ A2.out).mono ?_);rintro e ic ⟨rfl,hb⟩;refine ⟨_,rfl,?_⟩;replace aN:=zA (zq1 (zK aN.out) hb);replace HB:=zA (zq0 zB hb);clear hb))
  go_ret
  exact ⟨zT,zB⟩
 subst c3
 rw [if_pos rfl] at H
 by_cases c4:(af.length:Int)=0
 ·rw [if_pos c4] at H
  have c4b0:((af.length:Int)==0)=true:=beq_iff_eq.mpr c4
  have c4b1:((af.length:Int) != 0)=false:=bne_eq_false_iff_eq.mpr c4
  clear c4
  obtain rfl:=Option.some.inj H
  go_enter Tryz.func29,Tryz.ntmps29
  go_wp2_with (first|((with_reducible refine zq5 (N:=1) rfl ?_);(try (refine gate_guard zY30 ?_;dsimp only));refine zE (N:=1) (cs:=#[.string aa,.string ab,.slice b9 af.length b4,.slice b5 ap.length b6]) (t:=28) ?_;intro dH hg w5 hbox hb;have aN:=zA hbox;have lc:=zA (zS hg:w.heap.size≤dH);have ld:=zA (zS hg:w.heap.size≤dH);replace HB:=zA (zq0 zB hb);clear hb hbox hg;obtain ⟨_,_,_,_⟩:=zc4 aN.out;obtain ⟨_,_,_,_⟩:=zf4 aN.out)|((with_reducible refine zq2 (f:=32) rfl ?_);refine zq4 (some 5) rfl rfl Tryz.func32 zY2 rfl #[.agg #[.string aa,.string ab]] rfl zY0 ?_;(with_reducible refine (impl_Addr_null.calls aa ab true _ A2.out).mono ?_);rintro e w7 ⟨rfl,hb⟩;refine ⟨_,rfl,?_⟩;replace aN:=zA (zq1 (zK aN.out) hb);replace HB:=zA (zq0 zB hb);clear hb;obtain ⟨_,_,_,_⟩:=zc4 aN.out;obtain ⟨_,_,_,_⟩:=zf4 aN.out))
  go_ret
  exact ⟨zT,zB⟩
 rw [if_neg c4] at H
 have c4b0:((af.length:Int)==0)=false:=beq_eq_false_iff_ne.mpr c4
 have c4b1:((af.length:Int) != 0)=true:=bne_iff_ne.mpr c4
 have c4b2:¬ (af=[]):=fun h_=>c4 (by rw [h_];rfl)
 obtain rfl:=Option.some.inj H
 go_enter Tryz.func29,Tryz.ntmps29
 go_wp2_with (first|((with_reducible refine zq5 (N:=1) rfl ?_);(try (refine gate_guard zY30 ?_;dsimp only));refine zE (N:=1) (cs:=#[.string aa,.string ab,.slice b9 af.length b4,.slice b5 ap.length b6]) (t:=28) ?_;intro dH hg w9 hbox hb;have aN:=zA hbox;have lc:=zA (zS hg:w.heap.size≤dH);have ld:=zA (zS hg:w.heap.size≤dH);replace HB:=zA (zq0 zB hb);clear hb hbox hg;obtain ⟨_,_,_,_⟩:=zc4 aN.out;obtain ⟨_,_,_,_⟩:=zf4 aN.out)|((with_reducible refine zq2 (f:=32) rfl ?_);refine zq4 (some 5) rfl rfl Tryz.func32 zY2 rfl #[.agg #[.string aa,.string ab]] rfl zY0 ?_;(with_reducible refine (impl_Addr_null.calls aa ab true _ A2.out).mono ?_);rintro e gv ⟨rfl,hb⟩;refine ⟨_,rfl,?_⟩;replace aN:=zA (zq1 (zK aN.out) hb);replace HB:=zA (zq0 zB hb);clear hb;obtain ⟨_,_,_,_⟩:=zc4 aN.out;obtain ⟨_,_,_,_⟩:=zf4 aN.out))
 go_ret
 exact ⟨zT,zB⟩
def impl_Addr_sender.f (k:Nat) (aa:ByteArray) (ab:ByteArray):Option (Bool):=(impl_Addr_null.f aa ab).bind fun cM=>(if cM=true then (some true) else ((impl_AddrOk.f k aa ab).bind fun bR=>(some bR)))
set_option maxHeartbeats 8000000 in
set_option maxRecDepth 100000 in
theorem impl_Addr_sender.calls (k:Nat) (aa:ByteArray) (ab:ByteArray) (r:Bool) (w:World) (hG:GOK w) (h:impl_Addr_sender.f k aa ab=some r) :
 Calls Tryz.prog 66 #[.agg #[.string aa,.string ab]] w fun e w'=>e=.returned (.bool r)∧Below w.heap.size w w':=by
 have hu24:=Tryz.underlying24
 have HG:=zA hG
 clear hG
 have HB:=zA (Below.refl w.heap.size w)
 have H:((impl_Addr_null.f aa ab).bind fun cM=>(if cM=true then (some true) else ((impl_AddrOk.f k aa ab).bind fun bR=>(some bR))))=some r:=h
 clear h
 replace H:=Option.bind_eq_some_iff.mp H
 obtain ⟨cM,bv,H⟩:=H
 try dsimp only at H
 have A2:=zA bv
 clear bv
 by_cases c3:cM=true
 ·subst c3
  rw [if_pos rfl] at H
  obtain rfl:=Option.some.inj H
  go_enter Tryz.func66,Tryz.ntmps66
  go_wp2_with (first|((with_reducible refine zq5 (N:=1) rfl ?_);refine zE (N:=1) (cs:=#[.string aa,.string ab]) (t:=24) ?_;intro b3 hg w4 hbox hb;have aI:=zA hbox;have gt:=zA (zS hg:w.heap.size≤b3);have gu:=zA (zS hg:w.heap.size≤b3);replace HB:=zA (zq0 zB hb);clear hb hbox hg;obtain ⟨_,_⟩:=zc2 aI.out;obtain ⟨_,_⟩:=zf2 aI.out)|((with_reducible refine zq2 (f:=32) rfl ?_);refine zq4 (some 4) rfl rfl Tryz.func32 zY2 rfl #[.agg #[.string aa,.string ab]] rfl zY0 ?_;(with_reducible refine (impl_Addr_null.calls aa ab true _ A2.out).mono ?_);rintro e w6 ⟨rfl,hb⟩;refine ⟨_,rfl,?_⟩;replace aI:=zA (zq1 (zK aI.out) hb);replace HB:=zA (zq0 zB hb);clear hb))
  go_ret
  exact ⟨zT,zB⟩
 replace c3:=Bool.eq_false_iff.mpr c3
 subst c3
 rw [if_neg zfn] at H
 replace H:=Option.bind_eq_some_iff.mp H
 obtain ⟨bR,fI,H⟩:=H
 try dsimp only at H
 have A7:=zA fI
 clear fI
 obtain rfl:=Option.some.inj H
 go_enter Tryz.func66,Tryz.ntmps66
 go_wp2_with (first|((with_reducible refine zq5 (N:=1) rfl ?_);refine zE (N:=1) (cs:=#[.string aa,.string ab]) (t:=24) ?_;intro b3 hg w8 hbox hb;have aI:=zA hbox;have gt:=zA (zS hg:w.heap.size≤b3);have gu:=zA (zS hg:w.heap.size≤b3);replace HB:=zA (zq0 zB hb);clear hb hbox hg;obtain ⟨_,_⟩:=zc2 aI.out;obtain ⟨_,_⟩:=zf2 aI.out)|((with_reducible refine zq2 (f:=32) rfl ?_);refine zq4 (some 4) rfl rfl Tryz.func32 zY2 rfl #[.agg #[.string aa,.string ab]] rfl zY0 ?_;(with_reducible refine (impl_Addr_null.calls aa ab false _ A2.out).mono ?_);rintro e cv ⟨rfl,hb⟩;refine ⟨_,rfl,?_⟩;replace aI:=zA (zq1 (zK aI.out) hb);replace HB:=zA (zq0 zB hb);clear hb;obtain ⟨_,_⟩:=zc2 aI.out;obtain ⟨_,_⟩:=zf2 aI.out)|(go_at_call 28;(with_reducible refine (impl_AddrOk.calls k aa ab bR _ ?side1 A7.out).mono ?_);(case side1=>exact zg);rintro e gx ⟨rfl,hb⟩;replace aI:=zA (zq1 (zK aI.out) hb);replace HB:=zA (zq0 zB hb);clear hb))
 go_ret
 exact ⟨zT,zB⟩
def impl_MailOk_1.f (k:Nat) (aa:ByteArray) (ab:ByteArray):Option (Bool):=(impl_AddrOk.f k aa ab).bind fun cM=>(some (!cM))
set_option maxHeartbeats 8000000 in
set_option maxRecDepth 100000 in
theorem impl_MailOk_1.calls (k:Nat) (aa:ByteArray) (ab:ByteArray) (r:Bool) (w:World) (hG:GOK w) (h:impl_MailOk_1.f k aa ab=some r) :
 Calls Tryz.prog 65 #[.agg #[.string aa,.string ab]] w fun e w'=>e=.returned (.bool r)∧Below w.heap.size w w':=by
 have hu24:=Tryz.underlying24
 have HG:=zA hG
 clear hG
 have HB:=zA (Below.refl w.heap.size w)
 have H:((impl_AddrOk.f k aa ab).bind fun cM=>(some (!cM)))=some r:=h
 clear h
 replace H:=Option.bind_eq_some_iff.mp H
 obtain ⟨cM,bv,H⟩:=H
 try dsimp only at H
 have A2:=zA bv
 clear bv
 obtain rfl:=Option.some.inj H
 go_enter Tryz.func65,Tryz.ntmps65
 go_wp2_with (first|((with_reducible refine zq5 (N:=1) rfl ?_);refine zE (N:=1) (cs:=#[.string aa,.string ab]) (t:=24) ?_;intro b3 hg w3 hbox hb;have aI:=zA hbox;have gt:=zA (zS hg:w.heap.size≤b3);have gu:=zA (zS hg:w.heap.size≤b3);replace HB:=zA (zq0 zB hb);clear hb hbox hg;obtain ⟨_,_⟩:=zc2 aI.out;obtain ⟨_,_⟩:=zf2 aI.out)|((with_reducible refine zq2 (f:=28) rfl ?_);refine zq4 (some 4) rfl rfl Tryz.func28 zY2 rfl #[.agg #[.string aa,.string ab]] rfl zY0 ?_;(with_reducible refine (impl_AddrOk.calls k aa ab cM _ ?side1 A2.out).mono ?_);(case side1=>exact zg);rintro e w5 ⟨rfl,hb⟩;refine ⟨_,rfl,?_⟩;replace aI:=zA (zq1 (zK aI.out) hb);replace HB:=zA (zq0 zB hb);clear hb))
 go_ret
 exact ⟨zT,zB⟩
end Go.Proofs.YtjdpdkdhfnpcgaaGreatDoor.Q
