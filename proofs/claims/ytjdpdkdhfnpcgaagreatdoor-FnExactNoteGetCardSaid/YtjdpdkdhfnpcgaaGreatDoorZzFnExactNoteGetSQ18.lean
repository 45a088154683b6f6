/- Of a text of ours what this claim needs. -/
import Derived.Test.YtjdpdkdhfnpcgaaGreatDoorZzFnExactNoteGetSQ0
import Derived.Test.YtjdpdkdhfnpcgaaGreatDoorZzFnExactNoteGetSAu
import Derived.Test.YtjdpdkdhfnpcgaaGreatDoorZzFnExactNoteGetSQ17
namespace Go.Proofs.YtjdpdkdhfnpcgaaGreatDoor.Q
open Go.RowKit Go.Proofs.YtjdpdkdhfnpcgaaGreatDoorW.PrintWords Go.Proofs.YtjdpdkdhfnpcgaaGreatDoorW.PrintLast Go.Proofs.YtjdpdkdhfnpcgaaGreatDoorW.PrintMore
attribute [local go_sem] max2_int min2_int max_two min_two max_three min_three max_four min_four
set_option linter.unusedVariables false
set_option linter.unusedSimpArgs false
def laws_eqStringS.l0:Nat→List ByteArray→List ByteArray→Int→Option (Bool)
 | 0,_,_,_=>none
 | k+1,x0,x1,x5=>if x5 < (x0.length:Int) then (if 0≤x5 then (if x5 < (x1.length:Int) then (if (rdOf ByteArray.empty x0 x5).toList=(rdOf ByteArray.empty x1 x5).toList then (laws_eqStringS.l0 k x0 x1 (wrap64 (x5+1))) else (some false)) else (none)) else (none)) else (some true)
def laws_eqStringS.f (k:Nat) (l0:List ByteArray) (l1:List ByteArray):Option (Bool):=if (l0.length:Int)=(l1.length:Int) then (laws_eqStringS.l0 k l0 l1 0) else (some false)
set_option maxHeartbeats 8000000 in
set_option maxRecDepth 100000 in
theorem laws_eqStringS.calls (k:Nat) (A0:Option Addr) (c0:Nat) (l0:List ByteArray) (A1:Option Addr) (c1:Nat) (l1:List ByteArray) (r:Bool) (w:World) (dr:Kd.C Kd.string w A0 l0.length l0) (dt:l0.length≤c0) (nu:Kd.C Kd.string w A1 l1.length l1) (nv:l1.length≤c1) (h:laws_eqStringS.f k l0 l1=some r) :
 Calls Tryz.prog 83 #[.slice A0 l0.length c0,.slice A1 l1.length c1] w fun e w'=>e=.returned (.bool r)∧Drawn0 w w':=by
 have cW:=zA dr
 have fH:=zA dt
 clear dr dt
 have nw:=zA nu
 have Da:=zA nv
 clear nu nv
 have H:(if (l0.length:Int)=(l1.length:Int) then (laws_eqStringS.l0 k l0 l1 0) else (some false))=some r:=h
 clear h
 by_cases c3:(l0.length:Int)=(l1.length:Int)
 rotate_left
 ·rw [if_neg c3] at H
  have c3b0:((l0.length:Int)==(l1.length:Int))=false:=beq_eq_false_iff_ne.mpr c3
  have c3b1:((l0.length:Int) != (l1.length:Int))=true:=bne_iff_ne.mpr c3
  have c3b2:(l0.length==l1.length)=false:=by first|simpa using c3|(simp at c3 ⊢;omega)
  obtain rfl:=Option.some.inj H
  go_enter Tryz.func83,Tryz.ntmps83
  go_wp2
  repeat (go_quiet (fail);try go_wp2)
  go_ret
  exact ⟨by first|rfl|(simp;done)|(simp [*];done),by repeat (first|exact Drawn0.refl _|apply Drawn0.step)⟩
 rw [if_pos c3] at H
 have c3b0:((l0.length:Int)==(l1.length:Int))=true:=beq_iff_eq.mpr c3
 have c3b1:((l0.length:Int) != (l1.length:Int))=false:=bne_eq_false_iff_eq.mpr c3
 have c3b2:(l0.length==l1.length)=true:=by first|simpa using c3|(simp at c3 ⊢;omega)
 clear c3
 have H':=zA H
 clear H
 go_enter Tryz.func83,Tryz.ntmps83
 go_wp2
 repeat (go_quiet (fail);try go_wp2)
 go_loopg [5] k (fun kq v5 w'=>∃ (ae:Int),v5=.int .i64 ae∧Aside0 (laws_eqStringS.l0 kq l0 l1 ae=some r)∧Aside0 (kq≤k)∧Drawn0 w w')
 case atStart=>exact ⟨(0),zY3,H',⟨Nat.le_refl _⟩,by repeat (first|exact Drawn0.refl _|apply Drawn0.step)⟩
 case round =>
  clear H'
  try clear c1
  try clear p2
  try clear c3
  try clear c3b0
  try clear c3b1
  try clear c3b2
  obtain ⟨ae,rfl,HA,HK1,⟨m1,rfl⟩⟩:=hrel
  cases gk with
  | zero=>exact absurd HA.out (by simp [laws_eqStringS.l0])
  | succ k1 =>
   have H:=HA.out
   clear HA
   simp only [laws_eqStringS.l0] at H
   by_cases c4:ae < (l0.length:Int)
   rotate_left
   ·rw [if_neg c4] at H
    have c4b0:decide (ae < (l0.length:Int))=false:=decide_eq_false c4
    clear c4
    obtain rfl:=Option.some.inj H
    go_wp2
    repeat (go_quiet (fail);try go_wp2)
    go_ret
    exact ⟨by first|rfl|(simp;done)|(simp [*];done),by repeat (first|exact Drawn0.refl _|apply Drawn0.step)⟩
   rw [if_pos c4] at H
   have c4b0:decide (ae < (l0.length:Int))=true:=decide_eq_true c4
   clear c4
   obtain ⟨c5,H⟩:=zp H
   have c5b0:decide (0≤ae)=true:=decide_eq_true c5
   clear c5
   obtain ⟨c6,H⟩:=zp H
   have c6b0:decide (ae < (l1.length:Int))=true:=decide_eq_true c6
   clear c6
   by_cases c7:(rdOf ByteArray.empty l0 ae).toList=(rdOf ByteArray.empty l1 ae).toList
   rotate_left
   ·rw [if_neg c7] at H
    have c7b0:((rdOf ByteArray.empty l0 ae).toList==(rdOf ByteArray.empty l1 ae).toList)=false:=beq_eq_false_iff_ne.mpr c7
    have c7b1:((rdOf ByteArray.empty l0 ae).toList != (rdOf ByteArray.empty l1 ae).toList)=true:=bne_iff_ne.mpr c7
    obtain rfl:=Option.some.inj H
    have du:0≤(ae:Int):=of_decide_eq_true zY1
    have dv:ae < (l0.length:Int):=of_decide_eq_true zY1
    obtain ⟨gw,fJ,fx⟩:=Kd.z11 cW.out ae du dv
    cases fJ
    replace du:=eq_true du
    replace dv:=eq_true dv
    have ep:0≤(ae:Int):=of_decide_eq_true zY1
    have er:ae < (l1.length:Int):=of_decide_eq_true zY1
    obtain ⟨ig,ii,ga⟩:=Kd.z11 nw.out ae ep er
    cases ii
    replace ep:=eq_true ep
    replace er:=eq_true er
    go_wp2
    repeat (go_quiet (fail);try go_wp2)
    go_ret
    exact ⟨by first|rfl|(simp;done)|(simp [*];done),by repeat (first|exact Drawn0.refl _|apply Drawn0.step)⟩
   rw [if_pos c7] at H
   have c7b0:((rdOf ByteArray.empty l0 ae).toList==(rdOf ByteArray.empty l1 ae).toList)=true:=beq_iff_eq.mpr c7
   have c7b1:((rdOf ByteArray.empty l0 ae).toList != (rdOf ByteArray.empty l1 ae).toList)=false:=bne_eq_false_iff_eq.mpr c7
   clear c7
   have H':=zA H
   clear H
   have du:0≤(ae:Int):=of_decide_eq_true zY1
   have dv:ae < (l0.length:Int):=of_decide_eq_true zY1
   obtain ⟨gw,fJ,fx⟩:=Kd.z11 cW.out ae du dv
   cases fJ
   replace du:=eq_true du
   replace dv:=eq_true dv
   have ep:0≤(ae:Int):=of_decide_eq_true zY1
   have er:ae < (l1.length:Int):=of_decide_eq_true zY1
   obtain ⟨ig,ii,ga⟩:=Kd.z11 nw.out ae ep er
   cases ii
   replace ep:=eq_true ep
   replace er:=eq_true er
   go_wp2
   repeat (go_quiet (fail);try go_wp2)
   go_roundg k1
   case measure=>have:=HK1.out;omega
   case rel=>exact ⟨(wrap64 (ae+1)),zY3,H',⟨by have:=HK1.out;omega⟩,by repeat (first|exact Drawn0.refl _|apply Drawn0.step)⟩
def laws_eqMail.f (k:Nat) (aa:ByteArray) (ab:ByteArray) (af:List (S24)) (ap:List ByteArray) (cl:ByteArray) (cm:ByteArray) (fy:List (S24)) (fY:List ByteArray):Option (Bool):=(laws_eqAddr.f aa ab cl cm).bind fun bO=>(if bO=true then ((laws_eqAddrS.f k af fy).bind fun dN=>(if dN=true then ((laws_eqStringS.f k ap fY).bind fun dZ=>(if dZ=true then (some true) else (some false))) else (some false))) else (some false))
set_option maxHeartbeats 8000000 in
set_option maxRecDepth 100000 in
theorem laws_eqMail.calls (k:Nat) (aa:ByteArray) (ab:ByteArray) (b9:Option Addr) (b4:Nat) (af:List (S24)) (b5:Option Addr) (b6:Nat) (ap:List ByteArray) (cl:ByteArray) (cm:ByteArray) (jw:Option Addr) (jx:Nat) (fy:List (S24)) (ku:Option Addr) (kv:Nat) (fY:List ByteArray) (r:Bool) (w:World) (eX:Kd.C k24 w b9 af.length af) (eY:af.length≤b4) (eZ:Kd.C Kd.string w b5 ap.length ap) (e5:ap.length≤b6) (yy:Kd.C k24 w jw fy.length fy) (yz:fy.length≤jx) (yA:Kd.C Kd.string w ku fY.length fY) (yB:fY.length≤kv) (h:laws_eqMail.f k aa ab af ap cl cm fy fY=some r) :
 Calls Tryz.prog 41 #[.agg #[.string aa,.string ab,.slice b9 af.length b4,.slice b5 ap.length b6],.agg #[.string cl,.string cm,.slice jw fy.length jx,.slice ku fY.length kv]] w fun e w'=>e=.returned (.bool r)∧Below w.heap.size w w':=by
 have hu28:=Tryz.underlying28
 have hu24:=Tryz.underlying24
 have d6:=zA eX
 have fe:=zA eY
 clear eX eY
 have eP:=zA eZ
 have eQ:=zA e5
 clear eZ e5
 have sM:=zA yy
 have sN:=zA yz
 clear yy yz
 have yC:=zA yA
 have yD:=zA yB
 clear yA yB
 have HB:=zA (Below.refl w.heap.size w)
 have H:((laws_eqAddr.f aa ab cl cm).bind fun bO=>(if bO=true then ((laws_eqAddrS.f k af fy).bind fun dN=>(if dN=true then ((laws_eqStringS.f k ap fY).bind fun dZ=>(if dZ=true then (some true) else (some false))) else (some false))) else (some false)))=some r:=h
 clear h
 replace H:=Option.bind_eq_some_iff.mp H
 obtain ⟨bO,bu,H⟩:=H
 try dsimp only at H
 have A3:=zA bu
 clear bu
 by_cases c4:bO=true
 rotate_left
 ·replace c4:=Bool.eq_false_iff.mpr c4
  subst c4
  rw [if_neg zfn] at H
  obtain rfl:=Option.some.inj H
  go_enter Tryz.func41,Tryz.ntmps41
  go_wp2_with (first|((with_reducible refine zq5 (N:=2) rfl ?_);refine zE (N:=2) (cs:=#[.string aa,.string ab,.slice b9 af.length b4,.slice b5 ap.length b6]) (t:=28) ?_;intro dO hg qh hbox hb;have ah:=zA hbox;have mA:=zA (zS hg:w.heap.size≤dO);have mB:=zA (zS hg:w.heap.size≤dO);replace HB:=zA (zq0 zB hb);clear hb hbox hg)|((with_reducible refine zq5 (N:=3) rfl ?_);refine zE (N:=3) (cs:=#[.string cl,.string cm,.slice jw fy.length jx,.slice ku fY.length kv]) (t:=28) ?_;intro ff hg le hbox hb;have dw:=zA hbox;have sO:=zA (zS hg:w.heap.size≤ff);have sP:=zA (zS hg:w.heap.size≤ff);replace HB:=zA (zq0 zB hb);have lf:=zA (zNlt hg (zK ah.out):dO≠ff);have lg:=zA (zNgt hg (zK ah.out):ff≠dO);replace ah:=zA (zq1 (zK ah.out) hb);clear hb hbox hg;have yE:=lf.out;have yF:=lg.out;obtain ⟨_,_,_,_⟩:=zc4 ah.out;obtain ⟨_,_,_,_⟩:=zf4 ah.out;obtain ⟨_,_,_,_⟩:=zc4 dw.out;obtain ⟨_,_,_,_⟩:=zf4 dw.out)|((with_reducible refine zq2 (f:=40) rfl ?_);refine zq4 (some 9) rfl rfl Tryz.func40 zY2 rfl #[.agg #[.string aa,.string ab],.agg #[.string cl,.string cm]] rfl zY0 ?_;(with_reducible refine (laws_eqAddr.calls aa ab cl cm false _ A3.out).mono ?_);rintro e sQ ⟨rfl,hb⟩;refine ⟨_,rfl,?_⟩;replace ah:=zA (zq1 (zK ah.out) hb);replace dw:=zA (zq1 (zK dw.out) hb);replace HB:=zA (zq0 zB hb);clear hb))
  go_ret
  exact ⟨zT,zB⟩
 subst c4
 rw [if_pos rfl] at H
 replace H:=Option.bind_eq_some_iff.mp H
 obtain ⟨dN,dS,H⟩:=H
 try dsimp only at H
 have A5:=zA dS
 clear dS
 by_cases c6:dN=true
 rotate_left
 ·replace c6:=Bool.eq_false_iff.mpr c6
  subst c6
  rw [if_neg zfn] at H
  obtain rfl:=Option.some.inj H
  go_enter Tryz.func41,Tryz.ntmps41
  go_wp2_with (first|((with_reducible refine zq5 (N:=2) rfl ?_);refine zE (N:=2) (cs:=#[.string aa,.string ab,.slice b9 af.length b4,.slice b5 ap.length b6]) (t:=28) ?_;intro dO hg mC hbox hb;have ah:=zA hbox;have mA:=zA (zS hg:w.heap.size≤dO);have mB:=zA (zS hg:w.heap.size≤dO);replace HB:=zA (zq0 zB hb);clear hb hbox hg)|((with_reducible refine zq5 (N:=3) rfl ?_);refine zE (N:=3) (cs:=#[.string cl,.string cm,.slice jw fy.length jx,.slice ku fY.length kv]) (t:=28) ?_;intro ff hg sR hbox hb;have dw:=zA hbox;have sO:=zA (zS hg:w.heap.size≤ff);have sP:=zA (zS hg:w.heap.size≤ff);replace HB:=zA (zq0 zB hb);have lf:=zA (zNlt hg (zK ah.out):dO≠ff);have lg:=zA (zNgt hg (zK ah.out):ff≠dO);replace ah:=zA (zq1 (zK ah.out) hb);clear hb hbox hg;have Ml:=lf.out;have Mm:=lg.out;obtain ⟨_,_,_,_⟩:=zc4 ah.out;obtain ⟨_,_,_,_⟩:=zf4 ah.out;obtain ⟨_,_,_,_⟩:=zc4 dw.out;obtain ⟨_,_,_,_⟩:=zf4 dw.out)|((with_reducible refine zq2 (f:=40) rfl ?_);refine zq4 (some 9) rfl rfl Tryz.func40 zY2 rfl #[.agg #[.string aa,.string ab],.agg #[.string cl,.string cm]] rfl zY0 ?_;(with_reducible refine (laws_eqAddr.calls aa ab cl cm true _ A3.out).mono ?_);rintro e kw ⟨rfl,hb⟩;refine ⟨_,rfl,?_⟩;replace ah:=zA (zq1 (zK ah.out) hb);replace dw:=zA (zq1 (zK dw.out) hb);replace HB:=zA (zq0 zB hb);clear hb;obtain ⟨_,_,_,_⟩:=zc4 ah.out;obtain ⟨_,_,_,_⟩:=zf4 ah.out;obtain ⟨_,_,_,_⟩:=zc4 dw.out;obtain ⟨_,_,_,_⟩:=zf4 dw.out)|((with_reducible refine zq2 (f:=82) rfl ?_);refine zq4 (some 15) rfl rfl Tryz.func82 zY2 rfl #[.slice b9 af.length b4,.slice jw fy.length jx] rfl zY0 ?_;(with_reducible refine (laws_eqAddrS.calls k _ _ af _ _ fy false _ ?side1 ?side2 ?side3 ?side4 A5.out).mono ?_);(case side1=>exact zC (Kd.z0 d6.out HB.out));(case side2=>exact fe.out);(case side3=>exact zC (Kd.z0 sM.out HB.out));(case side4=>exact sN.out);rintro e nx ⟨rfl,hb⟩;refine ⟨_,rfl,?_⟩;replace ah:=zA (zq1 (zK ah.out) hb);replace dw:=zA (zq1 (zK dw.out) hb);replace HB:=zA (zq0 zB hb);clear hb))
  go_ret
  exact ⟨zT,zB⟩
 subst c6
 rw [if_pos rfl] at H
 replace H:=Option.bind_eq_some_iff.mp H
 obtain ⟨dZ,fI,H⟩:=H
 try dsimp only at H
 have A7:=zA fI
 clear fI
 by_cases c8:dZ=true
 ·subst c8
  rw [if_pos rfl] at H
  obtain rfl:=Option.some.inj H
  go_enter Tryz.func41,Tryz.ntmps41
  go_wp2_with (first|((with_reducible refine zq5 (N:=2) rfl ?_);refine zE (N:=2) (cs:=#[.string aa,.string ab,.slice b9 af.length b4,.slice b5 ap.length b6]) (t:=28) ?_;intro dO hg w9 hbox hb;have ah:=zA hbox;have mA:=zA (zS hg:w.heap.size≤dO);have mB:=zA (zS hg:w.heap.size≤dO);replace HB:=zA (zq0 zB hb);clear hb hbox hg)|((with_reducible refine zq5 (N:=3) rfl ?_);refine zE (N:=3) (cs:=#[.string cl,.string cm,.slice jw fy.length jx,.slice ku fY.length kv]) (t:=28) ?_;intro ff hg cv hbox hb;have dw:=zA hbox;have sO:=zA (zS hg:w.heap.size≤ff);have sP:=zA (zS hg:w.heap.size≤ff);replace HB:=zA (zq0 zB hb);have lf:=zA (zNlt hg (zK ah.out):dO≠ff);have lg:=zA (zNgt hg (zK ah.out):ff≠dO);replace ah:=zA (zq1 (zK ah.out) hb);clear hb hbox hg;have Db:=lf.out;have Dc:=lg.out;obtain ⟨_,_,_,_⟩:=zc4 ah.out;obtain ⟨_,_,_,_⟩:=zf4 ah.out;obtain ⟨_,_,_,_⟩:=zc4 dw.out;obtain ⟨_,_,_,_⟩:=zf4 dw.out)|((with_reducible refine zq2 (f:=40) rfl ?_);refine zq4 (some 9) rfl rfl Tryz.func40 zY2 rfl #[.agg #[.string aa,.string ab],.agg #[.string cl,.string cm]] rfl zY0 ?_;(with_reducible refine (laws_eqAddr.calls aa ab cl cm true _ A3.out).mono ?_);rintro e jy ⟨rfl,hb⟩;refine ⟨_,rfl,?_⟩;replace ah:=zA (zq1 (zK ah.out) hb);replace dw:=zA (zq1 (zK dw.out) hb);replace HB:=zA (zq0 zB hb);clear hb;obtain ⟨_,_,_,_⟩:=zc4 ah.out;obtain ⟨_,_,_,_⟩:=zf4 ah.out;obtain ⟨_,_,_,_⟩:=zc4 dw.out;obtain ⟨_,_,_,_⟩:=zf4 dw.out)|((with_reducible refine zq2 (f:=82) rfl ?_);refine zq4 (some 15) rfl rfl Tryz.func82 zY2 rfl #[.slice b9 af.length b4,.slice jw fy.length jx] rfl zY0 ?_;(with_reducible refine (laws_eqAddrS.calls k _ _ af _ _ fy true _ ?side1 ?side2 ?side3 ?side4 A5.out).mono ?_);(case side1=>exact zC (Kd.z0 d6.out HB.out));(case side2=>exact fe.out);(case side3=>exact zC (Kd.z0 sM.out HB.out));(case side4=>exact sN.out);rintro e jz ⟨rfl,hb⟩;refine ⟨_,rfl,?_⟩;replace ah:=zA (zq1 (zK ah.out) hb);replace dw:=zA (zq1 (zK dw.out) hb);replace HB:=zA (zq0 zB hb);clear hb;obtain ⟨_,_,_,_⟩:=zc4 ah.out;obtain ⟨_,_,_,_⟩:=zf4 ah.out;obtain ⟨_,_,_,_⟩:=zc4 dw.out;obtain ⟨_,_,_,_⟩:=zf4 dw.out)|((with_reducible refine zq2 (f:=83) rfl ?_);refine zq4 (some 21) rfl rfl Tryz.func83 zY2 rfl #[.slice b5 ap.length b6,.slice ku fY.length kv] rfl zY0 ?_;(with_reducible refine (laws_eqStringS.calls k _ _ ap _ _ fY true _ ?side1 ?side2 ?side3 ?side4 A7.out).mono ?_);(case side1=>exact zC (Kd.z0 eP.out HB.out));(case side2=>exact eQ.out);(case side3=>exact zC (Kd.z0 yC.out HB.out));(case side4=>exact yD.out);rintro e w' ⟨rfl,⟨nd,rfl⟩⟩;refine ⟨_,rfl,?_⟩))
  go_ret
  exact ⟨zT,zB⟩
 replace c8:=Bool.eq_false_iff.mpr c8
 subst c8
 rw [if_neg zfn] at H
 obtain rfl:=Option.some.inj H
 go_enter Tryz.func41,Tryz.ntmps41
 go_wp2_with (first|((with_reducible refine zq5 (N:=2) rfl ?_);refine zE (N:=2) (cs:=#[.string aa,.string ab,.slice b9 af.length b4,.slice b5 ap.length b6]) (t:=28) ?_;intro dO hg mD hbox hb;have ah:=zA hbox;have mA:=zA (zS hg:w.heap.size≤dO);have mB:=zA (zS hg:w.heap.size≤dO);replace HB:=zA (zq0 zB hb);clear hb hbox hg)|((with_reducible refine zq5 (N:=3) rfl ?_);refine zE (N:=3) (cs:=#[.string cl,.string cm,.slice jw fy.length jx,.slice ku fY.length kv]) (t:=28) ?_;intro ff hg yG hbox hb;have dw:=zA hbox;have sO:=zA (zS hg:w.heap.size≤ff);have sP:=zA (zS hg:w.heap.size≤ff);replace HB:=zA (zq0 zB hb);have lf:=zA (zNlt hg (zK ah.out):dO≠ff);have lg:=zA (zNgt hg (zK ah.out):ff≠dO);replace ah:=zA (zq1 (zK ah.out) hb);clear hb hbox hg;have Dd:=lf.out;have De:=lg.out;obtain ⟨_,_,_,_⟩:=zc4 ah.out;obtain ⟨_,_,_,_⟩:=zf4 ah.out;obtain ⟨_,_,_,_⟩:=zc4 dw.out;obtain ⟨_,_,_,_⟩:=zf4 dw.out)|((with_reducible refine zq2 (f:=40) rfl ?_);refine zq4 (some 9) rfl rfl Tryz.func40 zY2 rfl #[.agg #[.string aa,.string ab],.agg #[.string cl,.string cm]] rfl zY0 ?_;(with_reducible refine (laws_eqAddr.calls aa ab cl cm true _ A3.out).mono ?_);rintro e jA ⟨rfl,hb⟩;refine ⟨_,rfl,?_⟩;replace ah:=zA (zq1 (zK ah.out) hb);replace dw:=zA (zq1 (zK dw.out) hb);replace HB:=zA (zq0 zB hb);clear hb;obtain ⟨_,_,_,_⟩:=zc4 ah.out;obtain ⟨_,_,_,_⟩:=zf4 ah.out;obtain ⟨_,_,_,_⟩:=zc4 dw.out;obtain ⟨_,_,_,_⟩:=zf4 dw.out)|((with_reducible refine zq2 (f:=82) rfl ?_);refine zq4 (some 15) rfl rfl Tryz.func82 zY2 rfl #[.slice b9 af.length b4,.slice jw fy.length jx] rfl zY0 ?_;(with_reducible refine (laws_eqAddrS.calls k _ _ af _ _ fy true _ ?side1 ?side2 ?side3 ?side4 A5.out).mono ?_);(case side1=>exact zC (Kd.z0 d6.out HB.out));(case side2=>exact fe.out);(case side3=>exact zC (Kd.z0 sM.out HB.out));(case side4=>exact sN.out);rintro e gb ⟨rfl,hb⟩;refine ⟨_,rfl,?_⟩;replace ah:=zA (zq1 (zK ah.out) hb);replace dw:=zA (zq1 (zK dw.out) hb);replace HB:=zA (zq0 zB hb);clear hb;obtain ⟨_,_,_,_⟩:=zc4 ah.out;obtain ⟨_,_,_,_⟩:=zf4 ah.out;obtain ⟨_,_,_,_⟩:=zc4 dw.out;obtain ⟨_,_,_,_⟩:=zf4 dw.out)|((with_reducible refine zq2 (f:=83) rfl ?_);refine zq4 (some 21) rfl rfl Tryz.func83 zY2 rfl #[.slice b5 ap.length b6,.slice ku fY.length kv] rfl zY0 ?_;(with_reducible refine (laws_eqStringS.calls k _ _ ap _ _ fY false _ ?side1 ?side2 ?side3 ?side4 A7.out).mono ?_);(case side1=>exact zC (Kd.z0 eP.out HB.out));(case side2=>exact eQ.out);(case side3=>exact zC (Kd.z0 yC.out HB.out));(case side4=>exact yD.out);rintro e w' ⟨rfl,⟨nd,rfl⟩⟩;refine ⟨_,rfl,?_⟩))
 go_ret
 exact ⟨zT,zB⟩
def laws_eqNote.f (k:Nat) (aa:Int) (ab:Int) (aC:ByteArray) (aD:ByteArray) (aE:Int) (av:ByteArray) (aw:ByteArray) (al:List (S24)) (an:List ByteArray) (cl:Int) (cm:Int) (fg:ByteArray) (fh:ByteArray) (fZ:Int) (gc:ByteArray) (ge:ByteArray) (fA:List (S24)) (fB:List ByteArray):Option (Bool):=if aa=cl then (if ab=cm then ((laws_eqAddr.f aC aD fg fh).bind fun aW=>(if aW=true then (if aE=fZ then ((laws_eqMail.f k av aw al an gc ge fA fB).bind fun dx=>(if dx=true then (some true) else (some false))) else (some false)) else (some false))) else (some false)) else (some false)
set_option maxHeartbeats 8000000 in
set_option maxRecDepth 100000 in
theorem laws_eqNote.calls (k:Nat) (aa:Int) (ab:Int) (aC:ByteArray) (aD:ByteArray) (aE:Int) (av:ByteArray) (aw:ByteArray) (bS:Option Addr) (bT:Nat) (al:List (S24)) (bU:Option Addr) (bV:Nat) (an:List ByteArray) (cl:Int) (cm:Int) (fg:ByteArray) (fh:ByteArray) (fZ:Int) (gc:ByteArray) (ge:ByteArray) (iW:Option Addr) (iX:Nat) (fA:List (S24)) (iY:Option Addr) (iZ:Nat) (fB:List ByteArray) (r:Bool) (w:World) (fK:Kd.C k24 w bS al.length al) (fL:al.length≤bT) (fM:Kd.C Kd.string w bU an.length an) (fN:an.length≤bV) (yH:Kd.C k24 w iW fA.length fA) (yI:fA.length≤iX) (yJ:Kd.C Kd.string w iY fB.length fB) (yK:fB.length≤iZ) (h:laws_eqNote.f k aa ab aC aD aE av aw al an cl cm fg fh fZ gc ge fA fB=some r) :
 Calls Tryz.prog 15 #[.agg #[.int .i64 aa,.int .i64 ab,.string aC,.string aD,.int .i64 aE,.string av,.string aw,.slice bS al.length bT,.slice bU an.length bV],.agg #[.int .i64 cl,.int .i64 cm,.string fg,.string fh,.int .i64 fZ,.string gc,.string ge,.slice iW fA.length iX,.slice iY fB.length iZ]] w fun e w'=>e=.returned (.bool r)∧Below w.heap.size w w':=by
 have hu30:=Tryz.underlying30
 have hu24:=Tryz.underlying24
 have hu28:=Tryz.underlying28
 have eC:=zA fK
 have eD:=zA fL
 clear fK fL
 have eE:=zA fM
 have eF:=zA fN
 clear fM fN
 have yL:=zA yH
 have yM:=zA yI
 clear yH yI
 have yN:=zA yJ
 have yO:=zA yK
 clear yJ yK
 have HB:=zA (Below.refl w.heap.size w)
 have H:(if aa=cl then (if ab=cm then ((laws_eqAddr.f aC aD fg fh).bind fun aW=>(if aW=true then (if aE=fZ then ((laws_eqMail.f k av aw al an gc ge fA fB).bind fun dx=>(if dx=true then (some true) else (some false))) else (some false)) else (some false))) else (some false)) else (some false))=some r:=h
 clear h
 by_cases c3:aa=cl
 rotate_left
 ·rw [if_neg c3] at H
  have c3b0:(aa==cl)=false:=beq_eq_false_iff_ne.mpr c3
  have c3b1:(aa != cl)=true:=bne_iff_ne.mpr c3
  obtain rfl:=Option.some.inj H
  go_enter Tryz.func15,Tryz.ntmps15
  go_wp2_with (first|((with_reducible refine zq5 (N:=2) rfl ?_);refine zE (N:=2) (cs:=#[.int .i64 aa,.int .i64 ab,.string aC,.string aD,.int .i64 aE,.string av,.string aw,.slice bS al.length bT,.slice bU an.length bV]) (t:=30) ?_;intro bJ hg Mn hbox hb;have aj:=zA hbox;have jB:=zA (zS hg:w.heap.size≤bJ);have jC:=zA (zS hg:w.heap.size≤bJ);replace HB:=zA (zq0 zB hb);clear hb hbox hg)|((with_reducible refine zq5 (N:=3) rfl ?_);refine zE (N:=3) (cs:=#[.int .i64 cl,.int .i64 cm,.string fg,.string fh,.int .i64 fZ,.string gc,.string ge,.slice iW fA.length iX,.slice iY fB.length iZ]) (t:=30) ?_;intro dT hg mE hbox hb;have dy:=zA hbox;have ny:=zA (zS hg:w.heap.size≤dT);have nz:=zA (zS hg:w.heap.size≤dT);replace HB:=zA (zq0 zB hb);have ik:=zA (zNlt hg (zK aj.out):bJ≠dT);have il:=zA (zNgt hg (zK aj.out):dT≠bJ);replace aj:=zA (zq1 (zK aj.out) hb);clear hb hbox hg;have Mo:=ik.out;have Mp:=il.out;obtain ⟨_,_,_,_,_,_,_,_,_⟩:=zc9 aj.out;obtain ⟨_,_,_,_,_,_,_,_,_⟩:=zf9 aj.out;obtain ⟨_,_,_,_,_,_,_,_,_⟩:=zc9 dy.out;obtain ⟨_,_,_,_,_,_,_,_,_⟩:=zf9 dy.out))
  go_ret
  exact ⟨zT,zB⟩
 rw [if_pos c3] at H
 have c3b0:(aa==cl)=true:=beq_iff_eq.mpr c3
 have c3b1:(aa != cl)=false:=bne_eq_false_iff_eq.mpr c3
 clear c3
 by_cases c4:ab=cm
 rotate_left
 ·rw [if_neg c4] at H
  have c4b0:(ab==cm)=false:=beq_eq_false_iff_ne.mpr c4
  have c4b1:(ab != cm)=true:=bne_iff_ne.mpr c4
  obtain rfl:=Option.some.inj H
  go_enter Tryz.func15,Tryz.ntmps15
  go_wp2_with (first|((with_reducible refine zq5 (N:=2) rfl ?_);refine zE (N:=2) (cs:=#[.int .i64 aa,.int .i64 ab,.string aC,.string aD,.int .i64 aE,.string av,.string aw,.slice bS al.length bT,.slice bU an.length bV]) (t:=30) ?_;intro bJ hg Df hbox hb;have aj:=zA hbox;have jB:=zA (zS hg:w.heap.size≤bJ);have jC:=zA (zS hg:w.heap.size≤bJ);replace HB:=zA (zq0 zB hb);clear hb hbox hg)|((with_reducible refine zq5 (N:=3) rfl ?_);refine zE (N:=3) (cs:=#[.int .i64 cl,.int .i64 cm,.string fg,.string fh,.int .i64 fZ,.string gc,.string ge,.slice iW fA.length iX,.slice iY fB.length iZ]) (t:=30) ?_;intro dT hg mF hbox hb;have dy:=zA hbox;have ny:=zA (zS hg:w.heap.size≤dT);have nz:=zA (zS hg:w.heap.size≤dT);replace HB:=zA (zq0 zB hb);have ik:=zA (zNlt hg (zK aj.out):bJ≠dT);have il:=zA (zNgt hg (zK aj.out):dT≠bJ);replace aj:=zA (zq1 (zK aj.out) hb);clear hb hbox hg;have Mq:=ik.out;have Mr:=il.out;obtain ⟨_,_,_,_,_,_,_,_,_⟩:=zc9 aj.out;obtain ⟨_,_,_,_,_,_,_,_,_⟩:=zf9 aj.out;obtain ⟨_,_,_,_,_,_,_,_,_⟩:=zc9 dy.out;obtain ⟨_,_,_,_,_,_,_,_,_⟩:=zf9 dy.out))
  go_ret
  exact ⟨zT,zB⟩
 rw [if_pos c4] at H
 have c4b0:(ab==cm)=true:=beq_iff_eq.mpr c4
 have c4b1:(ab != cm)=false:=bne_eq_false_iff_eq.mpr c4
 clear c4
 replace H:=Option.bind_eq_some_iff.mp H
 obtain ⟨aW,dS,H⟩:=H
 try dsimp only at H
 have A5:=zA dS
 clear dS
 by_cases c6:aW=true
 rotate_left
 ·replace c6:=Bool.eq_false_iff.mpr c6
  subst c6
  rw [if_neg zfn] at H
  obtain rfl:=Option.some.inj H
  go_enter Tryz.func15,Tryz.ntmps15
  go_wp2_with (first|((with_reducible refine zq5 (N:=2) rfl ?_);refine zE (N:=2) (cs:=#[.int .i64 aa,.int .i64 ab,.string aC,.string aD,.int .i64 aE,.string av,.string aw,.slice bS al.length bT,.slice bU an.length bV]) (t:=30) ?_;intro bJ hg kw hbox hb;have aj:=zA hbox;have jB:=zA (zS hg:w.heap.size≤bJ);have jC:=zA (zS hg:w.heap.size≤bJ);replace HB:=zA (zq0 zB hb);clear hb hbox hg)|((with_reducible refine zq5 (N:=3) rfl ?_);refine zE (N:=3) (cs:=#[.int .i64 cl,.int .i64 cm,.string fg,.string fh,.int .i64 fZ,.string gc,.string ge,.slice iW fA.length iX,.slice iY fB.length iZ]) (t:=30) ?_;intro dT hg sS hbox hb;have dy:=zA hbox;have ny:=zA (zS hg:w.heap.size≤dT);have nz:=zA (zS hg:w.heap.size≤dT);replace HB:=zA (zq0 zB hb);have ik:=zA (zNlt hg (zK aj.out):bJ≠dT);have il:=zA (zNgt hg (zK aj.out):dT≠bJ);replace aj:=zA (zq1 (zK aj.out) hb);clear hb hbox hg;have Ms:=ik.out;have Mt:=il.out;obtain ⟨_,_,_,_,_,_,_,_,_⟩:=zc9 aj.out;obtain ⟨_,_,_,_,_,_,_,_,_⟩:=zf9 aj.out;obtain ⟨_,_,_,_,_,_,_,_,_⟩:=zc9 dy.out;obtain ⟨_,_,_,_,_,_,_,_,_⟩:=zf9 dy.out)|((with_reducible refine zq2 (f:=40) rfl ?_);refine zq4 (some 19) rfl rfl Tryz.func40 zY2 rfl #[.agg #[.string aC,.string aD],.agg #[.string fg,.string fh]] rfl zY0 ?_;(with_reducible refine (laws_eqAddr.calls aC aD fg fh false _ A5.out).mono ?_);rintro e le ⟨rfl,hb⟩;refine ⟨_,rfl,?_⟩;replace aj:=zA (zq1 (zK aj.out) hb);replace dy:=zA (zq1 (zK dy.out) hb);replace HB:=zA (zq0 zB hb);clear hb))
  go_ret
  exact ⟨zT,zB⟩
 subst c6
 rw [if_pos rfl] at H
 by_cases c7:aE=fZ
 rotate_left
 ·rw [if_neg c7] at H
  have c7b0:(aE==fZ)=false:=beq_eq_false_iff_ne.mpr c7
  have c7b1:(aE != fZ)=true:=bne_iff_ne.mpr c7
  obtain rfl:=Option.some.inj H
  go_enter Tryz.func15,Tryz.ntmps15
  go_wp2_with (first|((with_reducible refine zq5 (N:=2) rfl ?_);refine zE (N:=2) (cs:=#[.int .i64 aa,.int .i64 ab,.string aC,.string aD,.int .i64 aE,.string av,.string aw,.slice bS al.length bT,.slice bU an.length bV]) (t:=30) ?_;intro bJ hg gb hbox hb;have aj:=zA hbox;have jB:=zA (zS hg:w.heap.size≤bJ);have jC:=zA (zS hg:w.heap.size≤bJ);replace HB:=zA (zq0 zB hb);clear hb hbox hg)|((with_reducible refine zq5 (N:=3) rfl ?_);refine zE (N:=3) (cs:=#[.int .i64 cl,.int .i64 cm,.string fg,.string fh,.int .i64 fZ,.string gc,.string ge,.slice iW fA.length iX,.slice iY fB.length iZ]) (t:=30) ?_;intro dT hg sT hbox hb;have dy:=zA hbox;have ny:=zA (zS hg:w.heap.size≤dT);have nz:=zA (zS hg:w.heap.size≤dT);replace HB:=zA (zq0 zB hb);have ik:=zA (zNlt hg (zK aj.out):bJ≠dT);have il:=zA (zNgt hg (zK aj.out):dT≠bJ);replace aj:=zA (zq1 (zK aj.out) hb);clear hb hbox hg;have sU:=ik.out;have sV:=il.out;obtain ⟨_,_,_,_,_,_,_,_,_⟩:=zc9 aj.out;obtain ⟨_,_,_,_,_,_,_,_,_⟩:=zf9 aj.out;obtain ⟨_,_,_,_,_,_,_,_,_⟩:=zc9 dy.out;obtain ⟨_,_,_,_,_,_,_,_,_⟩:=zf9 dy.out)|((with_reducible refine zq2 (f:=40) rfl ?_);refine zq4 (some 19) rfl rfl Tryz.func40 zY2 rfl #[.agg #[.string aC,.string aD],.agg #[.string fg,.string fh]] rfl zY0 ?_;(with_reducible refine (laws_eqAddr.calls aC aD fg fh true _ A5.out).mono ?_);rintro e eR ⟨rfl,hb⟩;refine ⟨_,rfl,?_⟩;replace aj:=zA (zq1 (zK aj.out) hb);replace dy:=zA (zq1 (zK dy.out) hb);replace HB:=zA (zq0 zB hb);clear hb;obtain ⟨_,_,_,_,_,_,_,_,_⟩:=zc9 aj.out;obtain ⟨_,_,_,_,_,_,_,_,_⟩:=zf9 aj.out;obtain ⟨_,_,_,_,_,_,_,_,_⟩:=zc9 dy.out;obtain ⟨_,_,_,_,_,_,_,_,_⟩:=zf9 dy.out))
  go_ret
  exact ⟨zT,zB⟩
 rw [if_pos c7] at H
 have c7b0:(aE==fZ)=true:=beq_iff_eq.mpr c7
 have c7b1:(aE != fZ)=false:=bne_eq_false_iff_eq.mpr c7
 clear c7
 replace H:=Option.bind_eq_some_iff.mp H
 obtain ⟨dx,e6,H⟩:=H
 try dsimp only at H
 have A8:=zA e6
 clear e6
 by_cases c9:dx=true
 ·subst c9
  rw [if_pos rfl] at H
  obtain rfl:=Option.some.inj H
  go_enter Tryz.func15,Tryz.ntmps15
  go_wp2_with (first|((with_reducible refine zq5 (N:=2) rfl ?_);refine zE (N:=2) (cs:=#[.int .i64 aa,.int .i64 ab,.string aC,.string aD,.int .i64 aE,.string av,.string aw,.slice bS al.length bT,.slice bU an.length bV]) (t:=30) ?_;intro bJ hg cv hbox hb;have aj:=zA hbox;have jB:=zA (zS hg:w.heap.size≤bJ);have jC:=zA (zS hg:w.heap.size≤bJ);replace HB:=zA (zq0 zB hb);clear hb hbox hg)|((with_reducible refine zq5 (N:=3) rfl ?_);refine zE (N:=3) (cs:=#[.int .i64 cl,.int .i64 cm,.string fg,.string fh,.int .i64 fZ,.string gc,.string ge,.slice iW fA.length iX,.slice iY fB.length iZ]) (t:=30) ?_;intro dT hg gv hbox hb;have dy:=zA hbox;have ny:=zA (zS hg:w.heap.size≤dT);have nz:=zA (zS hg:w.heap.size≤dT);replace HB:=zA (zq0 zB hb);have ik:=zA (zNlt hg (zK aj.out):bJ≠dT);have il:=zA (zNgt hg (zK aj.out):dT≠bJ);replace aj:=zA (zq1 (zK aj.out) hb);clear hb hbox hg;have yw:=ik.out;have yx:=il.out;obtain ⟨_,_,_,_,_,_,_,_,_⟩:=zc9 aj.out;obtain ⟨_,_,_,_,_,_,_,_,_⟩:=zf9 aj.out;obtain ⟨_,_,_,_,_,_,_,_,_⟩:=zc9 dy.out;obtain ⟨_,_,_,_,_,_,_,_,_⟩:=zf9 dy.out)|((with_reducible refine zq2 (f:=40) rfl ?_);refine zq4 (some 19) rfl rfl Tryz.func40 zY2 rfl #[.agg #[.string aC,.string aD],.agg #[.string fg,.string fh]] rfl zY0 ?_;(with_reducible refine (laws_eqAddr.calls aC aD fg fh true _ A5.out).mono ?_);rintro e ic ⟨rfl,hb⟩;refine ⟨_,rfl,?_⟩;replace aj:=zA (zq1 (zK aj.out) hb);replace dy:=zA (zq1 (zK dy.out) hb);replace HB:=zA (zq0 zB hb);clear hb;obtain ⟨_,_,_,_,_,_,_,_,_⟩:=zc9 aj.out;obtain ⟨_,_,_,_,_,_,_,_,_⟩:=zf9 aj.out;obtain ⟨_,_,_,_,_,_,_,_,_⟩:=zc9 dy.out;obtain ⟨_,_,_,_,_,_,_,_,_⟩:=zf9 dy.out)|((with_reducible refine zq2 (f:=41) rfl ?_);refine zq4 (some 30) rfl rfl Tryz.func41 zY2 rfl #[.agg #[.string av,.string aw,.slice bS al.length bT,.slice bU an.length bV],.agg #[.string gc,.string ge,.slice iW fA.length iX,.slice iY fB.length iZ]] rfl zY0 ?_;(with_reducible refine (laws_eqMail.calls k av aw _ _ al _ _ an gc ge _ _ fA _ _ fB true _ ?side1 ?side2 ?side3 ?side4 ?side5 ?side6 ?side7 ?side8 A8.out).mono ?_);(case side1=>exact zC (Kd.z0 eC.out HB.out));(case side2=>exact eD.out);(case side3=>exact zC (Kd.z0 eE.out HB.out));(case side4=>exact eF.out);(case side5=>exact zC (Kd.z0 yL.out HB.out));(case side6=>exact yM.out);(case side7=>exact zC (Kd.z0 yN.out HB.out));(case side8=>exact yO.out);rintro e jD ⟨rfl,hb⟩;refine ⟨_,rfl,?_⟩;replace aj:=zA (zq1 (zK aj.out) hb);replace dy:=zA (zq1 (zK dy.out) hb);replace HB:=zA (zq0 zB hb);clear hb))
  go_ret
  exact ⟨zT,zB⟩
 replace c9:=Bool.eq_false_iff.mpr c9
 subst c9
 rw [if_neg zfn] at H
 obtain rfl:=Option.some.inj H
 go_enter Tryz.func15,Tryz.ntmps15
 go_wp2_with (first|((with_reducible refine zq5 (N:=2) rfl ?_);refine zE (N:=2) (cs:=#[.int .i64 aa,.int .i64 ab,.string aC,.string aD,.int .i64 aE,.string av,.string aw,.slice bS al.length bT,.slice bU an.length bV]) (t:=30) ?_;intro bJ hg eS hbox hb;have aj:=zA hbox;have jB:=zA (zS hg:w.heap.size≤bJ);have jC:=zA (zS hg:w.heap.size≤bJ);replace HB:=zA (zq0 zB hb);clear hb hbox hg)|((with_reducible refine zq5 (N:=3) rfl ?_);refine zE (N:=3) (cs:=#[.int .i64 cl,.int .i64 cm,.string fg,.string fh,.int .i64 fZ,.string gc,.string ge,.slice iW fA.length iX,.slice iY fB.length iZ]) (t:=30) ?_;intro dT hg mD hbox hb;have dy:=zA hbox;have ny:=zA (zS hg:w.heap.size≤dT);have nz:=zA (zS hg:w.heap.size≤dT);replace HB:=zA (zq0 zB hb);have ik:=zA (zNlt hg (zK aj.out):bJ≠dT);have il:=zA (zNgt hg (zK aj.out):dT≠bJ);replace aj:=zA (zq1 (zK aj.out) hb);clear hb hbox hg;have sW:=ik.out;have sX:=il.out;obtain ⟨_,_,_,_,_,_,_,_,_⟩:=zc9 aj.out;obtain ⟨_,_,_,_,_,_,_,_,_⟩:=zf9 aj.out;obtain ⟨_,_,_,_,_,_,_,_,_⟩:=zc9 dy.out;obtain ⟨_,_,_,_,_,_,_,_,_⟩:=zf9 dy.out)|((with_reducible refine zq2 (f:=40) rfl ?_);refine zq4 (some 19) rfl rfl Tryz.func40 zY2 rfl #[.agg #[.string aC,.string aD],.agg #[.string fg,.string fh]] rfl zY0 ?_;(with_reducible refine (laws_eqAddr.calls aC aD fg fh true _ A5.out).mono ?_);rintro e qi ⟨rfl,hb⟩;refine ⟨_,rfl,?_⟩;replace aj:=zA (zq1 (zK aj.out) hb);replace dy:=zA (zq1 (zK dy.out) hb);replace HB:=zA (zq0 zB hb);clear hb;obtain ⟨_,_,_,_,_,_,_,_,_⟩:=zc9 aj.out;obtain ⟨_,_,_,_,_,_,_,_,_⟩:=zf9 aj.out;obtain ⟨_,_,_,_,_,_,_,_,_⟩:=zc9 dy.out;obtain ⟨_,_,_,_,_,_,_,_,_⟩:=zf9 dy.out)|((with_reducible refine zq2 (f:=41) rfl ?_);refine zq4 (some 30) rfl rfl Tryz.func41 zY2 rfl #[.agg #[.string av,.string aw,.slice bS al.length bT,.slice bU an.length bV],.agg #[.string gc,.string ge,.slice iW fA.length iX,.slice iY fB.length iZ]] rfl zY0 ?_;(with_reducible refine (laws_eqMail.calls k av aw _ _ al _ _ an gc ge _ _ fA _ _ fB false _ ?side1 ?side2 ?side3 ?side4 ?side5 ?side6 ?side7 ?side8 A8.out).mono ?_);(case side1=>exact zC (Kd.z0 eC.out HB.out));(case side2=>exact eD.out);(case side3=>exact zC (Kd.z0 eE.out HB.out));(case side4=>exact eF.out);(case side5=>exact zC (Kd.z0 yL.out HB.out));(case side6=>exact yM.out);(case side7=>exact zC (Kd.z0 yN.out HB.out));(case side8=>exact yO.out);rintro e eG ⟨rfl,hb⟩;refine ⟨_,rfl,?_⟩;replace aj:=zA (zq1 (zK aj.out) hb);replace dy:=zA (zq1 (zK dy.out) hb);replace HB:=zA (zq0 zB hb);clear hb))
 go_ret
 exact ⟨zT,zB⟩
end Go.Proofs.YtjdpdkdhfnpcgaaGreatDoor.Q
