/- Of a text of ours what this claim needs. -/
import Derived.Test.YtjdpdkdhfnpcgaaGreatDoorZzFnExactNoteGetSQ0
import Derived.Test.YtjdpdkdhfnpcgaaGreatDoorZzFnExactNoteGetSAu
import Derived.Test.YtjdpdkdhfnpcgaaGreatDoorZzFnExactNoteGetSQ4
namespace Go.Proofs.YtjdpdkdhfnpcgaaGreatDoor.Q
open Go.RowKit Go.Proofs.YtjdpdkdhfnpcgaaGreatDoorW.PrintWords Go.Proofs.YtjdpdkdhfnpcgaaGreatDoorW.PrintLast Go.Proofs.YtjdpdkdhfnpcgaaGreatDoorW.PrintMore
attribute [local go_sem] max2_int min2_int max_two min_two max_three min_three max_four min_four
set_option linter.unusedVariables false
set_option linter.unusedSimpArgs false
def spec_l1Domain.l0:Nat→List ByteArray→Int→Option (Bool)
 | 0,_,_=>none
 | k+1,x3,x4=>if x4 < (x3.length:Int) then (if 0≤x4 then ((spec_l1Word.f k (rdOf ByteArray.empty x3 x4)).bind fun gV=>(if gV=true then (spec_l1Domain.l0 k x3 (wrap64 (x4+1))) else (some false))) else (none)) else (some (decide ((x3.length:Int)≤3)))
def spec_l1Domain.f (k:Nat) (a0:ByteArray):Option (Bool):=(spec_l1Cut.f k a0 46 3).bind fun aW=>(spec_l1Domain.l0 k aW 0)
set_option maxHeartbeats 8000000 in
set_option maxRecDepth 100000 in
theorem spec_l1Domain.calls (k:Nat) (a0:ByteArray) (r:Bool) (w:World) (h:spec_l1Domain.f k a0=some r) :
 Calls Tryz.prog 109 #[.string a0] w fun e w'=>e=.returned (.bool r)∧Below w.heap.size w w':=by
 have HB:=zA (Below.refl w.heap.size w)
 have H:((spec_l1Cut.f k a0 46 3).bind fun aW=>(spec_l1Domain.l0 k aW 0))=some r:=h
 clear h
 replace H:=Option.bind_eq_some_iff.mp H
 obtain ⟨aW,bv,H⟩:=H
 try dsimp only at H
 have A2:=zA bv
 clear bv
 have H':=zA H
 clear H
 go_enter Tryz.func109,Tryz.ntmps109
 go_wp2_with (first|((with_reducible refine zq2 (f:=78) rfl ?_);refine zq4 (some 6) rfl rfl Tryz.func78 zY2 rfl #[.string a0,.int .u8 46,.int .i64 3] rfl zY0 ?_;(with_reducible refine (spec_l1Cut.calls k a0 46 3 aW _ A2.out).mono ?_);rintro e w3 ⟨Do,rfl,ar,hb⟩;refine ⟨_,rfl,?_⟩;have Dp:=zA (Kd.z6 ar (zq7 zB));replace HB:=zA (zq0 zB hb);clear hb ar))
 go_loopg [4] k (fun kq v4 w'=>∃ (ak:Int),v4=.int .i64 ak∧Aside0 (spec_l1Domain.l0 kq aW ak=some r)∧Aside0 (kq≤k)∧Aside0 (Kd.R Kd.string 9 w' w.heap.size (fun _=>True) Do aW)∧Aside0 (Below w.heap.size w w'))
 case atStart=>exact ⟨(0),zY3,H',⟨Nat.le_refl _⟩,⟨zVR Dp.out⟩,⟨zB⟩⟩
 case round =>
  clear H'
  try clear c1
  try clear p2
  obtain ⟨ak,rfl,HA,HK1,eB,HB⟩:=hrel
  cases gk with
  | zero=>exact absurd HA.out (by simp [spec_l1Domain.l0])
  | succ k1 =>
   have H:=HA.out
   clear HA
   simp only [spec_l1Domain.l0] at H
   by_cases c4:ak < (aW.length:Int)
   rotate_left
   ·rw [if_neg c4] at H
    have c4b0:decide (ak < (aW.length:Int))=false:=decide_eq_false c4
    clear c4
    obtain rfl:=Option.some.inj H
    obtain ⟨dG,dc,nD⟩:=Kd.z9 eB.out
    subst nD
    go_wp2
    go_ret
    exact ⟨zT,zB⟩
   rw [if_pos c4] at H
   have c4b0:decide (ak < (aW.length:Int))=true:=decide_eq_true c4
   clear c4
   obtain ⟨c5,H⟩:=zp H
   have c5b0:decide (0≤ak)=true:=decide_eq_true c5
   clear c5
   replace H:=Option.bind_eq_some_iff.mp H
   obtain ⟨gV,es,H⟩:=H
   try dsimp only at H
   have A6:=zA es
   clear es
   by_cases c7:gV=true
   rotate_left
   ·replace c7:=Bool.eq_false_iff.mpr c7
    subst c7
    rw [if_neg zfn] at H
    obtain rfl:=Option.some.inj H
    obtain ⟨dY,db,nE⟩:=Kd.z9 eB.out
    subst nE
    have ln:0≤(ak:Int):=of_decide_eq_true zY1
    have lp:ak < (aW.length:Int):=of_decide_eq_true zY1
    obtain ⟨Dq,td,Dr⟩:=Kd.z11 (Kd.z8 eB.out).2.2 ak ln lp
    cases td
    replace ln:=eq_true ln
    replace lp:=eq_true lp
    go_wp2_with (first|((with_reducible refine zq2 (f:=108) rfl ?_);refine zq4 (some 17) rfl rfl Tryz.func108 zY2 rfl #[.string (rdOf ByteArray.empty aW ak)] rfl zY0 ?_;(with_reducible refine (spec_l1Word.calls k1 (rdOf ByteArray.empty aW ak) false _ A6.out).mono ?_);rintro e w' ⟨rfl,⟨nd,rfl⟩⟩;refine ⟨_,rfl,?_⟩))
    go_ret
    exact ⟨zT,zB⟩
   subst c7
   rw [if_pos rfl] at H
   have H':=zA H
   clear H
   obtain ⟨yR,ql,nC⟩:=Kd.z9 eB.out
   subst nC
   have ln:0≤(ak:Int):=of_decide_eq_true zY1
   have lp:ak < (aW.length:Int):=of_decide_eq_true zY1
   obtain ⟨Dq,td,Dr⟩:=Kd.z11 (Kd.z8 eB.out).2.2 ak ln lp
   cases td
   replace ln:=eq_true ln
   replace lp:=eq_true lp
   go_wp2_with (first|((with_reducible refine zq2 (f:=108) rfl ?_);refine zq4 (some 17) rfl rfl Tryz.func108 zY2 rfl #[.string (rdOf ByteArray.empty aW ak)] rfl zY0 ?_;(with_reducible refine (spec_l1Word.calls k1 (rdOf ByteArray.empty aW ak) true _ A6.out).mono ?_);rintro e w' ⟨rfl,⟨nd,rfl⟩⟩;refine ⟨_,rfl,?_⟩))
   go_roundg k1
   case measure=>have:=HK1.out;omega
   case rel=>exact ⟨(wrap64 (ak+1)),zY3,H',⟨by have:=HK1.out;omega⟩,⟨zVR eB.out⟩,⟨zB⟩⟩
def spec_l1AddrOk.f (k:Nat) (aa:ByteArray) (ab:ByteArray):Option (Bool):=(spec_l1Word.f k aa).bind fun jF=>(if jF=true then ((spec_l1Domain.f k ab).bind fun jG=>(some jG)) else (some false))
set_option maxHeartbeats 8000000 in
set_option maxRecDepth 100000 in
theorem spec_l1AddrOk.calls (k:Nat) (aa:ByteArray) (ab:ByteArray) (r:Bool) (w:World) (h:spec_l1AddrOk.f k aa ab=some r) :
 Calls Tryz.prog 59 #[.agg #[.string aa,.string ab]] w fun e w'=>e=.returned (.bool r)∧Below w.heap.size w w':=by
 have hu24:=Tryz.underlying24
 have HB:=zA (Below.refl w.heap.size w)
 have H:((spec_l1Word.f k aa).bind fun jF=>(if jF=true then ((spec_l1Domain.f k ab).bind fun jG=>(some jG)) else (some false)))=some r:=h
 clear h
 replace H:=Option.bind_eq_some_iff.mp H
 obtain ⟨jF,bv,H⟩:=H
 try dsimp only at H
 have A2:=zA bv
 clear bv
 by_cases c3:jF=true
 rotate_left
 ·replace c3:=Bool.eq_false_iff.mpr c3
  subst c3
  rw [if_neg zfn] at H
  obtain rfl:=Option.some.inj H
  go_enter Tryz.func59,Tryz.ntmps59
  go_wp2_with (first|((with_reducible refine zq5 (N:=1) rfl ?_);refine zE (N:=1) (cs:=#[.string aa,.string ab]) (t:=24) ?_;intro nF hg w8 hbox hb;have lq:=zA hbox;have Ds:=zA (zS hg:w.heap.size≤nF);have Dt:=zA (zS hg:w.heap.size≤nF);replace HB:=zA (zq0 zB hb);clear hb hbox hg;obtain ⟨_,_⟩:=zc2 lq.out;obtain ⟨_,_⟩:=zf2 lq.out)|((with_reducible refine zq2 (f:=108) rfl ?_);refine zq4 (some 5) rfl rfl Tryz.func108 zY2 rfl #[.string aa] rfl zY0 ?_;(with_reducible refine (spec_l1Word.calls k aa false _ A2.out).mono ?_);rintro e w' ⟨rfl,⟨nd,rfl⟩⟩;refine ⟨_,rfl,?_⟩))
  go_ret
  exact ⟨zT,zB⟩
 subst c3
 rw [if_pos rfl] at H
 replace H:=Option.bind_eq_some_iff.mp H
 obtain ⟨jG,ci,H⟩:=H
 try dsimp only at H
 have A4:=zA ci
 clear ci
 obtain rfl:=Option.some.inj H
 go_enter Tryz.func59,Tryz.ntmps59
 go_wp2_with (first|((with_reducible refine zq5 (N:=1) rfl ?_);refine zE (N:=1) (cs:=#[.string aa,.string ab]) (t:=24) ?_;intro nF hg w5 hbox hb;have lq:=zA hbox;have Ds:=zA (zS hg:w.heap.size≤nF);have Dt:=zA (zS hg:w.heap.size≤nF);replace HB:=zA (zq0 zB hb);clear hb hbox hg;obtain ⟨_,_⟩:=zc2 lq.out;obtain ⟨_,_⟩:=zf2 lq.out)|((with_reducible refine zq2 (f:=108) rfl ?_);refine zq4 (some 5) rfl rfl Tryz.func108 zY2 rfl #[.string aa] rfl zY0 ?_;(with_reducible refine (spec_l1Word.calls k aa true _ A2.out).mono ?_);rintro e w' ⟨rfl,⟨nd,rfl⟩⟩;refine ⟨_,rfl,?_⟩)|(go_at_call 109;(with_reducible refine (spec_l1Domain.calls k ab jG _ A4.out).mono ?_);rintro e w7 ⟨rfl,hb⟩;replace lq:=zA (zq1 (zK lq.out) hb);replace HB:=zA (zq0 zB hb);clear hb))
 go_ret
 exact ⟨zT,zB⟩
def spec_l2LineOk.l0:Nat→ByteArray→Int→Option (Bool)
 | 0,_,_=>none
 | k+1,x0,x3=>if x3 < (x0.size:Int) then (if 0≤x3 then (if (bt x0 x3) < 32 then (some false) else (if (bt x0 x3) > 126 then (some false) else (spec_l2LineOk.l0 k x0 (wrap64 (x3+1))))) else (none)) else (some (decide ((x0.size:Int)≤40)))
def spec_l2LineOk.f (k:Nat) (a0:ByteArray):Option (Bool):=spec_l2LineOk.l0 k a0 0
set_option maxHeartbeats 8000000 in
set_option maxRecDepth 100000 in
theorem spec_l2LineOk.calls (k:Nat) (a0:ByteArray) (r:Bool) (w:World) (h:spec_l2LineOk.f k a0=some r) :
 Calls Tryz.prog 140 #[.string a0] w fun e w'=>e=.returned (.bool r)∧Drawn0 w w':=by
 have H:(spec_l2LineOk.l0 k a0 0)=some r:=h
 clear h
 have H':=zA H
 clear H
 go_enter Tryz.func140,Tryz.ntmps140
 go_wp2
 go_loopg [3] k (fun kq v3 w'=>∃ (ac:Int),v3=.int .i64 ac∧Aside0 (spec_l2LineOk.l0 kq a0 ac=some r)∧Aside0 (kq≤k)∧Drawn0 w w')
 case atStart=>exact ⟨(0),zY3,H',⟨Nat.le_refl _⟩,by repeat (first|exact Drawn0.refl _|apply Drawn0.step)⟩
 case round =>
  clear H'
  try clear c1
  obtain ⟨ac,rfl,HA,HK1,⟨m1,rfl⟩⟩:=hrel
  cases gk with
  | zero=>exact absurd HA.out (by simp [spec_l2LineOk.l0])
  | succ k1 =>
   have H:=HA.out
   clear HA
   simp only [spec_l2LineOk.l0] at H
   by_cases c2:ac < (a0.size:Int)
   rotate_left
   ·rw [if_neg c2] at H
    have c2b0:decide (ac < (a0.size:Int))=false:=decide_eq_false c2
    clear c2
    obtain rfl:=Option.some.inj H
    go_wp2
    go_ret
    exact ⟨by first|rfl|(simp;done)|(simp [*];done),by repeat (first|exact Drawn0.refl _|apply Drawn0.step)⟩
   rw [if_pos c2] at H
   have c2b0:decide (ac < (a0.size:Int))=true:=decide_eq_true c2
   clear c2
   obtain ⟨c3,H⟩:=zp H
   have c3b0:decide (0≤ac)=true:=decide_eq_true c3
   clear c3
   by_cases c5:(bt a0 ac) < 32
   ·rw [if_pos c5] at H
    have c5b0:decide ((bt a0 ac) < 32)=true:=decide_eq_true c5
    clear c5
    obtain rfl:=Option.some.inj H
    have p4:0≤(ac:Int):=of_decide_eq_true zY1
    have q4:ac < (a0.size:Int):=of_decide_eq_true zY1
    have gU:=bt_at a0 ac
    replace p4:=eq_true p4
    replace q4:=eq_true q4
    go_wp2
    go_ret
    exact ⟨by first|rfl|(simp;done)|(simp [*];done),by repeat (first|exact Drawn0.refl _|apply Drawn0.step)⟩
   rw [if_neg c5] at H
   have c5b0:decide ((bt a0 ac) < 32)=false:=decide_eq_false c5
   clear c5
   by_cases c7:(bt a0 ac) > 126
   ·rw [if_pos c7] at H
    have c7b0:decide (126 < (bt a0 ac))=true:=decide_eq_true c7
    clear c7
    obtain rfl:=Option.some.inj H
    have p4:0≤(ac:Int):=of_decide_eq_true zY1
    have q4:ac < (a0.size:Int):=of_decide_eq_true zY1
    have gU:=bt_at a0 ac
    replace p4:=eq_true p4
    replace q4:=eq_true q4
    have p6:0≤(ac:Int):=of_decide_eq_true zY1
    have q6:ac < (a0.size:Int):=of_decide_eq_true zY1
    have ll:=bt_at a0 ac
    replace p6:=eq_true p6
    replace q6:=eq_true q6
    go_wp2
    go_ret
    exact ⟨by first|rfl|(simp;done)|(simp [*];done),by repeat (first|exact Drawn0.refl _|apply Drawn0.step)⟩
   rw [if_neg c7] at H
   have c7b0:decide (126 < (bt a0 ac))=false:=decide_eq_false c7
   clear c7
   have H':=zA H
   clear H
   have p4:0≤(ac:Int):=of_decide_eq_true zY1
   have q4:ac < (a0.size:Int):=of_decide_eq_true zY1
   have gU:=bt_at a0 ac
   replace p4:=eq_true p4
   replace q4:=eq_true q4
   have p6:0≤(ac:Int):=of_decide_eq_true zY1
   have q6:ac < (a0.size:Int):=of_decide_eq_true zY1
   have ll:=bt_at a0 ac
   replace p6:=eq_true p6
   replace q6:=eq_true q6
   go_wp2
   go_roundg k1
   case measure=>have:=HK1.out;omega
   case rel=>exact ⟨(wrap64 (ac+1)),zY3,H',⟨by have:=HK1.out;omega⟩,by repeat (first|exact Drawn0.refl _|apply Drawn0.step)⟩
def spec_l2BodyOk.l0:Nat→List ByteArray→Int→Option (Bool)
 | 0,_,_=>none
 | k+1,x0,x3=>if x3 < (x0.length:Int) then (if 0≤x3 then ((spec_l2LineOk.f k (rdOf ByteArray.empty x0 x3)).bind fun cM=>(if cM=true then (spec_l2BodyOk.l0 k x0 (wrap64 (x3+1))) else (some false))) else (none)) else (some (decide ((x0.length:Int)≤12)))
def spec_l2BodyOk.f (k:Nat) (l0:List ByteArray):Option (Bool):=spec_l2BodyOk.l0 k l0 0
set_option maxHeartbeats 8000000 in
set_option maxRecDepth 100000 in
theorem spec_l2BodyOk.calls (k:Nat) (A0:Option Addr) (c0:Nat) (l0:List ByteArray) (r:Bool) (w:World) (dr:Kd.C Kd.string w A0 l0.length l0) (dt:l0.length≤c0) (h:spec_l2BodyOk.f k l0=some r) :
 Calls Tryz.prog 107 #[.slice A0 l0.length c0] w fun e w'=>e=.returned (.bool r)∧Drawn0 w w':=by
 have cW:=zA dr
 have fH:=zA dt
 clear dr dt
 have H:(spec_l2BodyOk.l0 k l0 0)=some r:=h
 clear h
 have H':=zA H
 clear H
 go_enter Tryz.func107,Tryz.ntmps107
 go_wp2
 go_loopg [3] k (fun kq v3 w'=>∃ (ac:Int),v3=.int .i64 ac∧Aside0 (spec_l2BodyOk.l0 kq l0 ac=some r)∧Aside0 (kq≤k)∧Drawn0 w w')
 case atStart=>exact ⟨(0),zY3,H',⟨Nat.le_refl _⟩,by repeat (first|exact Drawn0.refl _|apply Drawn0.step)⟩
 case round =>
  clear H'
  try clear c1
  obtain ⟨ac,rfl,HA,HK1,⟨m1,rfl⟩⟩:=hrel
  cases gk with
  | zero=>exact absurd HA.out (by simp [spec_l2BodyOk.l0])
  | succ k1 =>
   have H:=HA.out
   clear HA
   simp only [spec_l2BodyOk.l0] at H
   by_cases c2:ac < (l0.length:Int)
   rotate_left
   ·rw [if_neg c2] at H
    have c2b0:decide (ac < (l0.length:Int))=false:=decide_eq_false c2
    clear c2
    obtain rfl:=Option.some.inj H
    go_wp2
    go_ret
    exact ⟨by first|rfl|(simp;done)|(simp [*];done),by repeat (first|exact Drawn0.refl _|apply Drawn0.step)⟩
   rw [if_pos c2] at H
   have c2b0:decide (ac < (l0.length:Int))=true:=decide_eq_true c2
   clear c2
   obtain ⟨c3,H⟩:=zp H
   have c3b0:decide (0≤ac)=true:=decide_eq_true c3
   clear c3
   replace H:=Option.bind_eq_some_iff.mp H
   obtain ⟨cM,ci,H⟩:=H
   try dsimp only at H
   have A4:=zA ci
   clear ci
   by_cases c5:cM=true
   rotate_left
   ·replace c5:=Bool.eq_false_iff.mpr c5
    subst c5
    rw [if_neg zfn] at H
    obtain rfl:=Option.some.inj H
    have du:0≤(ac:Int):=of_decide_eq_true zY1
    have dv:ac < (l0.length:Int):=of_decide_eq_true zY1
    obtain ⟨gw,fJ,fx⟩:=Kd.z11 cW.out ac du dv
    cases fJ
    replace du:=eq_true du
    replace dv:=eq_true dv
    go_wp2_with (first|((with_reducible refine zq2 (f:=140) rfl ?_);refine zq4 (some 14) rfl rfl Tryz.func140 zY2 rfl #[.string (rdOf ByteArray.empty l0 ac)] rfl zY0 ?_;(with_reducible refine (spec_l2LineOk.calls k1 (rdOf ByteArray.empty l0 ac) false _ A4.out).mono ?_);rintro e w' ⟨rfl,⟨nd,rfl⟩⟩;refine ⟨_,rfl,?_⟩))
    go_ret
    exact ⟨by first|rfl|(simp;done)|(simp [*];done),by repeat (first|exact Drawn0.refl _|apply Drawn0.step)⟩
   subst c5
   rw [if_pos rfl] at H
   have H':=zA H
   clear H
   have du:0≤(ac:Int):=of_decide_eq_true zY1
   have dv:ac < (l0.length:Int):=of_decide_eq_true zY1
   obtain ⟨gw,fJ,fx⟩:=Kd.z11 cW.out ac du dv
   cases fJ
   replace du:=eq_true du
   replace dv:=eq_true dv
   go_wp2_with (first|((with_reducible refine zq2 (f:=140) rfl ?_);refine zq4 (some 14) rfl rfl Tryz.func140 zY2 rfl #[.string (rdOf ByteArray.empty l0 ac)] rfl zY0 ?_;(with_reducible refine (spec_l2LineOk.calls k1 (rdOf ByteArray.empty l0 ac) true _ A4.out).mono ?_);rintro e w' ⟨rfl,⟨nd,rfl⟩⟩;refine ⟨_,rfl,?_⟩))
   go_roundg k1
   case measure=>have:=HK1.out;omega
   case rel=>exact ⟨(wrap64 (ac+1)),zY3,H',⟨by have:=HK1.out;omega⟩,by repeat (first|exact Drawn0.refl _|apply Drawn0.step)⟩
end Go.Proofs.YtjdpdkdhfnpcgaaGreatDoor.Q
