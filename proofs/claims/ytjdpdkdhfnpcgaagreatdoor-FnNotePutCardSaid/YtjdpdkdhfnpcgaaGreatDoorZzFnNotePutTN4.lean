/- Of a text of ours what this claim needs. -/
import Derived.BigCall
import Derived.Lib.AtoiAllCases
import Derived.Test.YtjdpdkdhfnpcgaaGreatDoorZzFnNotePutTN3
set_option maxHeartbeats 8000000
set_option maxRecDepth 100000
namespace Go.Proofs.YtjdpdkdhfnpcgaaGreatDoor.Q
open Go.RowKit Go.Proofs.YtjdpdkdhfnpcgaaGreatDoorW.PrintWords Go.Proofs.YtjdpdkdhfnpcgaaGreatDoorW.PrintLast Go.Proofs.YtjdpdkdhfnpcgaaGreatDoorW.PrintMore
attribute [local go_sem] max2_int min2_int max_two min_two max_three min_three max_four min_four
set_option linter.unusedVariables false
set_option linter.unusedSimpArgs false
def yba.f (k:Nat)(l0:List ByteArray):Option (Bool):=if(l0.length:Int)≤12 then((yaw.f k l0).bind fun dM=>(some (!dM)))else(some false)
theorem yba.calls (k:Nat)(A0:Option Addr)(c0:Nat)(l0:List ByteArray)(r:Bool)(w:World)(cA:Kd.C Kd.string w A0 l0.length l0)(df:l0.length≤c0)(h:yba.f k l0=some r) :
 Calls Tryz.prog 69 #[.slice A0 l0.length c0] w fun e w'=>e=.returned (.bool r)∧Drawn0 w w':=by
 have dA:=zA cA;have e6:=zA df;clear cA df;have H:=h;clear h;unfold yba.f at H;obtain⟨⟨c2b0,c2⟩,H⟩|⟨⟨c2b0,c2⟩,H⟩:=zf H zkNdk zkdk
 ·have c2b1:decide (l0.length≤12)=false:=decide_eq_false zY8;clear c2;obtain rfl:=zs H;go_enter Tryz.func69,Tryz.ntmps69;go_wp2;go_ret;exact⟨by first|rfl|(simp;done)|(simp[*];done),by repeat(first|exact Drawn0.refl _|apply Drawn0.step)⟩
 have c2b1:decide (l0.length≤12)=true:=decide_eq_true zY8;clear c2;obtain⟨dM,A3,H⟩:=zM H;obtain rfl:=zs H;go_enter Tryz.func69,Tryz.ntmps69;go_wp2_with (first|(go_at_call 113;(with_reducible refine(yaw.calls k _ _ l0  dM _ ?side1 ?side2 A3.out).mono ?_);(case side1=>exact zC dA.out);(case side2=>exact e6.out);rintro e w' ⟨rfl,⟨nd,rfl⟩⟩))
 go_ret;exact⟨by first|rfl|(simp;done)|(simp[*];done),by repeat(first|exact Drawn0.refl _|apply Drawn0.step)⟩
def ya5.f (k:Nat)(ag:ByteArray)(ai:ByteArray)(ay:List (S24))(bc:List ByteArray):Option (Bool):=(yaC.f k ag ai).bind fun i7=>(if i7=true then((yaK.f (ay.length:Int) 1 4).bind fun fC=>(if fC=true then((yah.f k ay).bind fun gH=>(if gH=true then(some false)else((yaL.f ay).bind fun dv=>(if dv=true then((yba.f k bc).bind fun gV=>(some gV))else(some false)))))else(some false)))else(some false))
theorem ya5.calls (k:Nat)(ag:ByteArray)(ai:ByteArray)(dr:Option Addr)(dg:Nat)(ay:List (S24))(cI:Option Addr)(cJ:Nat)(bc:List ByteArray)(r:Bool)(w:World)(gI:Kd.C k24 w dr ay.length ay)(gJ:ay.length≤dg)(fD:Kd.C Kd.string w cI bc.length bc)(fE:bc.length≤cJ)(hG:GOK w)(h:ya5.f k ag ai ay bc=some r) :
 Calls Tryz.prog 30 #[.agg #[.string ag,.string ai,.slice dr ay.length dg,.slice cI bc.length cJ]] w fun e w'=>e=.returned (.bool r)∧Below w.heap.size w w':=by
 have hu28:=Tryz.underlying28;have hu24:=Tryz.underlying24;have fj:=zA gI;have iv:=zA gJ;clear gI gJ;have ft:=zA fD;have gv:=zA fE;clear fD fE;have HG:=zA hG;clear hG;have HB:=zA (Below.refl w.heap.size w);have H:=h;clear h;unfold ya5.f at H;replace H:=zM H;obtain⟨i7,A2,H⟩:=H;replace H:=zb H;obtain⟨rfl,H⟩|⟨rfl,H⟩:=H
 ·obtain rfl:=zs H;go_enter Tryz.func30,Tryz.ntmps30;(go_wp2_with (first|((with_reducible refine zq5 (N:=1) rfl ?_);(try(refine gate_guard zY15 ?_;dsimp only));refine zE (N:=1) (cs:=#[.string ag,.string ai,.slice dr ay.length dg,.slice cI bc.length cJ]) (t:=28) ?_;intro fJ hg qy hbox hb;have cf:=zA hbox;have o8:=zA (zS hg:w.heap.size≤fJ);have o9:=zA (zS hg:w.heap.size≤fJ);replace HB:=zA (zq1 zB hb);clear hb hbox hg;obtain⟨_,_,_,_⟩:=zc4 cf.out;obtain⟨_,_,_,_⟩:=zf4 cf.out)|((with_reducible refine zq3 (f:=66) rfl ?_);refine zq7 (some 6) rfl rfl Tryz.func66 zY2 rfl #[.agg #[.string ag,.string ai]] rfl zY0 ?_;(with_reducible refine(yaC.calls k ag ai false _ ?side1 A2.out).mono ?_);(case side1=>exact zg);rintro e sN ⟨rfl,hb⟩;refine⟨_,rfl,?_⟩;replace cf:=zA (zq2 (zK cf.out) hb);replace HB:=zA (zq1 zB hb);clear hb)));go_ret;exact⟨zT,zB⟩
 replace H:=zM H;obtain⟨fC,A4,H⟩:=H;replace H:=zb H;obtain⟨rfl,H⟩|⟨rfl,H⟩:=H
 ·obtain rfl:=zs H;go_enter Tryz.func30,Tryz.ntmps30;(go_wp2_with (first|((with_reducible refine zq5 (N:=1) rfl ?_);(try(refine gate_guard zY15 ?_;dsimp only));refine zE (N:=1) (cs:=#[.string ag,.string ai,.slice dr ay.length dg,.slice cI bc.length cJ]) (t:=28) ?_;intro fJ hg kB hbox hb;have cf:=zA hbox;have o8:=zA (zS hg:w.heap.size≤fJ);have o9:=zA (zS hg:w.heap.size≤fJ);replace HB:=zA (zq1 zB hb);clear hb hbox hg;obtain⟨_,_,_,_⟩:=zc4 cf.out;obtain⟨_,_,_,_⟩:=zf4 cf.out)|((with_reducible refine zq3 (f:=66) rfl ?_);refine zq7 (some 6) rfl rfl Tryz.func66 zY2 rfl #[.agg #[.string ag,.string ai]] rfl zY0 ?_;(with_reducible refine(yaC.calls k ag ai true _ ?side1 A2.out).mono ?_);(case side1=>exact zg);rintro e fW ⟨rfl,hb⟩;refine⟨_,rfl,?_⟩;replace cf:=zA (zq2 (zK cf.out) hb);replace HB:=zA (zq1 zB hb);clear hb;obtain⟨_,_,_,_⟩:=zc4 cf.out;obtain⟨_,_,_,_⟩:=zf4 cf.out)|(go_at_call 27;(with_reducible refine(yaK.calls (ay.length:Int) 1 4 false _ A4.out).mono ?_);rintro e w' ⟨rfl,⟨nd,rfl⟩⟩)));go_ret;exact⟨zT,zB⟩
 replace H:=zM H;obtain⟨gH,A6,H⟩:=H;replace H:=zbp H;obtain⟨rfl,H⟩|⟨rfl,H⟩:=H
 ·obtain rfl:=zs H;go_enter Tryz.func30,Tryz.ntmps30;(go_wp2_with (first|((with_reducible refine zq5 (N:=1) rfl ?_);(try(refine gate_guard zY15 ?_;dsimp only));refine zE (N:=1) (cs:=#[.string ag,.string ai,.slice dr ay.length dg,.slice cI bc.length cJ]) (t:=28) ?_;intro fJ hg w8 hbox hb;have cf:=zA hbox;have o8:=zA (zS hg:w.heap.size≤fJ);have o9:=zA (zS hg:w.heap.size≤fJ);replace HB:=zA (zq1 zB hb);clear hb hbox hg;obtain⟨_,_,_,_⟩:=zc4 cf.out;obtain⟨_,_,_,_⟩:=zf4 cf.out)|((with_reducible refine zq3 (f:=66) rfl ?_);refine zq7 (some 6) rfl rfl Tryz.func66 zY2 rfl #[.agg #[.string ag,.string ai]] rfl zY0 ?_;(with_reducible refine(yaC.calls k ag ai true _ ?side1 A2.out).mono ?_);(case side1=>exact zg);rintro e et ⟨rfl,hb⟩;refine⟨_,rfl,?_⟩;replace cf:=zA (zq2 (zK cf.out) hb);replace HB:=zA (zq1 zB hb);clear hb;obtain⟨_,_,_,_⟩:=zc4 cf.out;obtain⟨_,_,_,_⟩:=zf4 cf.out)|(go_at_call 27;(with_reducible refine(yaK.calls (ay.length:Int) 1 4 true _ A4.out).mono ?_);rintro e w' ⟨rfl,⟨nd,rfl⟩⟩)|(go_at_call 67;(with_reducible refine(yah.calls k _ _ ay  true _ ?side1 ?side2 ?side3 A6.out).mono ?_);(case side1=>exact zC (Kd.z0 fj.out zB));(case side2=>exact iv.out);(case side3=>exact zg);rintro e ew ⟨rfl,hb⟩;replace cf:=zA (zq2 (zK cf.out) hb);replace HB:=zA (zq1 zB hb);clear hb)));go_ret;exact⟨zT,zB⟩
 replace H:=zM H;obtain⟨dv,Bh,H⟩:=H;replace H:=zb H;obtain⟨rfl,H⟩|⟨rfl,H⟩:=H
 ·obtain rfl:=zs H;go_enter Tryz.func30,Tryz.ntmps30;(go_wp2_with (first|((with_reducible refine zq5 (N:=1) rfl ?_);(try(refine gate_guard zY15 ?_;dsimp only));refine zE (N:=1) (cs:=#[.string ag,.string ai,.slice dr ay.length dg,.slice cI bc.length cJ]) (t:=28) ?_;intro fJ hg pa hbox hb;have cf:=zA hbox;have o8:=zA (zS hg:w.heap.size≤fJ);have o9:=zA (zS hg:w.heap.size≤fJ);replace HB:=zA (zq1 zB hb);clear hb hbox hg;obtain⟨_,_,_,_⟩:=zc4 cf.out;obtain⟨_,_,_,_⟩:=zf4 cf.out)|((with_reducible refine zq3 (f:=66) rfl ?_);refine zq7 (some 6) rfl rfl Tryz.func66 zY2 rfl #[.agg #[.string ag,.string ai]] rfl zY0 ?_;(with_reducible refine(yaC.calls k ag ai true _ ?side1 A2.out).mono ?_);(case side1=>exact zg);rintro e xd ⟨rfl,hb⟩;refine⟨_,rfl,?_⟩;replace cf:=zA (zq2 (zK cf.out) hb);replace HB:=zA (zq1 zB hb);clear hb;obtain⟨_,_,_,_⟩:=zc4 cf.out;obtain⟨_,_,_,_⟩:=zf4 cf.out)|(go_at_call 27;(with_reducible refine(yaK.calls (ay.length:Int) 1 4 true _ A4.out).mono ?_);rintro e w' ⟨rfl,⟨nd,rfl⟩⟩)|(go_at_call 67;(with_reducible refine(yah.calls k _ _ ay  false _ ?side1 ?side2 ?side3 A6.out).mono ?_);(case side1=>exact zC (Kd.z0 fj.out zB));(case side2=>exact iv.out);(case side3=>exact zg);rintro e eG ⟨rfl,hb⟩;replace cf:=zA (zq2 (zK cf.out) hb);replace HB:=zA (zq1 zB hb);clear hb;obtain⟨_,_,_,_⟩:=zc4 cf.out;obtain⟨_,_,_,_⟩:=zf4 cf.out)|(go_at_call 68;(with_reducible refine(yaL.calls _ _ ay false _ ?side1 ?side2 Bh.out).mono ?_);(case side1=>exact zC (Kd.z0 fj.out HB.out));(case side2=>exact iv.out);rintro e o0 ⟨rfl,hb⟩;replace cf:=zA (zq2 (zK cf.out) hb);replace HB:=zA (zq1 zB hb);clear hb)));go_ret;exact⟨zT,zB⟩
 replace H:=zM H;obtain⟨gV,nt,H⟩:=H;obtain rfl:=zs H;go_enter Tryz.func30,Tryz.ntmps30;go_wp2_with (first|((with_reducible refine zq5 (N:=1) rfl ?_);(try(refine gate_guard zY15 ?_;dsimp only));refine zE (N:=1) (cs:=#[.string ag,.string ai,.slice dr ay.length dg,.slice cI bc.length cJ]) (t:=28) ?_;intro fJ hg o3 hbox hb;have cf:=zA hbox;have o8:=zA (zS hg:w.heap.size≤fJ);have o9:=zA (zS hg:w.heap.size≤fJ);replace HB:=zA (zq1 zB hb);clear hb hbox hg;obtain⟨_,_,_,_⟩:=zc4 cf.out;obtain⟨_,_,_,_⟩:=zf4 cf.out)|((with_reducible refine zq3 (f:=66) rfl ?_);refine zq7 (some 6) rfl rfl Tryz.func66 zY2 rfl #[.agg #[.string ag,.string ai]] rfl zY0 ?_;(with_reducible refine(yaC.calls k ag ai true _ ?side1 A2.out).mono ?_);(case side1=>exact zg);rintro e jS ⟨rfl,hb⟩;refine⟨_,rfl,?_⟩;replace cf:=zA (zq2 (zK cf.out) hb);replace HB:=zA (zq1 zB hb);clear hb;obtain⟨_,_,_,_⟩:=zc4 cf.out;obtain⟨_,_,_,_⟩:=zf4 cf.out)|(go_at_call 27;(with_reducible refine(yaK.calls (ay.length:Int) 1 4 true _ A4.out).mono ?_);rintro e w' ⟨rfl,⟨nd,rfl⟩⟩)|(go_at_call 67;(with_reducible refine(yah.calls k _ _ ay  false _ ?side1 ?side2 ?side3 A6.out).mono ?_);(case side1=>exact zC (Kd.z0 fj.out zB));(case side2=>exact iv.out);(case side3=>exact zg);rintro e qA ⟨rfl,hb⟩;replace cf:=zA (zq2 (zK cf.out) hb);replace HB:=zA (zq1 zB hb);clear hb;obtain⟨_,_,_,_⟩:=zc4 cf.out;obtain⟨_,_,_,_⟩:=zf4 cf.out)|(go_at_call 68;(with_reducible refine(yaL.calls _ _ ay true _ ?side1 ?side2 Bh.out).mono ?_);(case side1=>exact zC (Kd.z0 fj.out HB.out));(case side2=>exact iv.out);rintro e sx ⟨rfl,hb⟩;replace cf:=zA (zq2 (zK cf.out) hb);replace HB:=zA (zq1 zB hb);clear hb;obtain⟨_,_,_,_⟩:=zc4 cf.out;obtain⟨_,_,_,_⟩:=zf4 cf.out)|(go_at_call 69;(with_reducible refine(yba.calls k _ _ bc gV _ ?side1 ?side2 nt.out).mono ?_);(case side1=>exact zC (Kd.z0 ft.out HB.out));(case side2=>exact gv.out);rintro e w' ⟨rfl,⟨nd,rfl⟩⟩))
 go_ret;exact⟨zT,zB⟩
def ybd.f (a0:Int):Option (Bool):=(yaK.f a0 0 9999).bind fun dm=>(some dm)
theorem ybd.calls (a0:Int)(r:Bool)(w:World)(h:ybd.f a0=some r) :
 Calls Tryz.prog 31 #[.int .i64 a0] w fun e w'=>e=.returned (.bool r)∧Drawn0 w w':=by
 have H:=h;clear h;unfold ybd.f at H;obtain⟨dm,A2,H⟩:=zM H;obtain rfl:=zs H;go_enter Tryz.func31,Tryz.ntmps31;go_wp2_with (first|((with_reducible refine zq3 (f:=27) rfl ?_);refine zq7 (some 4) rfl rfl Tryz.func27 zY2 rfl #[.int .i64 a0,.int .i64 0,.int .i64 9999] rfl zY0 ?_;(with_reducible refine(yaK.calls a0 0 9999 dm _ A2.out).mono ?_);rintro e w' ⟨rfl,⟨nd,rfl⟩⟩;refine⟨_,rfl,?_⟩))
 go_ret;exact⟨by first|rfl|(simp;done)|(simp[*];done),by repeat(first|exact Drawn0.refl _|apply Drawn0.step)⟩
def yam.j0:Nat→Bool→Int→Int→ByteArray→ByteArray→Int→ByteArray→ByteArray→List (S24)→List ByteArray→Option (Bool)
 | 0,_,_,_,_,_,_,_,_,_,_=>none
 | k+1,x3,qx,wW,o5,sI,xe,FU,FV,FW,FX=>if qx=1 then((ya5.f k FU FV FW FX).bind fun ie=>(if ie=true then((ybd.f xe).bind fun i7=>(if i7=true then(if wW=0 then((yaD.f o5 sI).bind fun fC=>(some fC))else(some false))else(some false)))else(some false)))else(if qx=2 then(if x3=true then(some (xe==0))else(some false))else(if qx=3 then(if x3=true then((ybd.f xe).bind fun gH=>(some gH))else(some false))else(some false)))
def yam.f (k:Nat)(ag:Int)(ai:Int)(aM:ByteArray)(bf:ByteArray)(bj:Int)(bg:ByteArray)(bh:ByteArray)(aN:List (S24))(aQ:List ByteArray):Option (Bool):=(yaK.f ai 1 999).bind fun eE=>(if eE=true then((ya8.f k aM bf).bind fun lc=>(if lc=true then((ybk.f bg bh aN aQ).bind fun dM=>(yam.j0 k dM ag ai aM bf bj bg bh aN aQ))else(yam.j0 k false ag ai aM bf bj bg bh aN aQ)))else(yam.j0 k false ag ai aM bf bj bg bh aN aQ))
theorem yam.calls (k:Nat)(ag:Int)(ai:Int)(aM:ByteArray)(bf:ByteArray)(bj:Int)(bg:ByteArray)(bh:ByteArray)(cm:Option Addr)(cn:Nat)(aN:List (S24))(co:Option Addr)(cp:Nat)(aQ:List ByteArray)(r:Bool)(w:World)(fF:Kd.C k24 w cm aN.length aN)(fG:aN.length≤cn)(fH:Kd.C Kd.string w co aQ.length aQ)(fI:aQ.length≤cp)(hG:GOK w)(h:yam.f k ag ai aM bf bj bg bh aN aQ=some r) :
 Calls Tryz.prog 10 #[.agg #[.int .i64 ag,.int .i64 ai,.string aM,.string bf,.int .i64 bj,.string bg,.string bh,.slice cm aN.length cn,.slice co aQ.length cp]] w fun e w'=>e=.returned (.bool r)∧Below w.heap.size w w':=by
 have hu30:=Tryz.underlying30;have hu24:=Tryz.underlying24;have hu28:=Tryz.underlying28;have eL:=zA fF;have eM:=zA fG;clear fF fG;have eN:=zA fH;have eO:=zA fI;clear fH fI;have HG:=zA hG;clear hG;have HB:=zA (Below.refl w.heap.size w);have H:=h;clear h;unfold yam.f at H;have nb:=zA H;clear H;go_enter Tryz.func10,Tryz.ntmps10;go_upto_region 1 with (first|((with_reducible refine zq5 (N:=1) rfl ?_);refine zE (N:=1) (cs:=#[.int .i64 ag,.int .i64 ai,.string aM,.string bf,.int .i64 bj,.string bg,.string bh,.slice cm aN.length cn,.slice co aQ.length cp]) (t:=30) ?_;intro gY hg w3 hbox hb;have bv:=zA hbox;have sJ:=zA (zS hg:w.heap.size≤gY);have sK:=zA (zS hg:w.heap.size≤gY);replace HB:=zA (zq1 zB hb);clear hb hbox hg))
 (try simp only[Act.put,zL0,zL1,zL2]);go_cut [3] (fun v3 wc=>∃(kq:Nat) (au:Bool),v3=.bool au∧Aside0 (yam.j0 kq au ag ai aM bf bj bg bh aN aQ=some r)∧Aside0 (kq≤k)∧Aside0 (wc.heap[gY]?=some (.cells #[.int .i64 ag,.int .i64 ai,.string aM,.string bf,.int .i64 bj,.string bg,.string bh,(.slice cm aN.length cn),(.slice co aQ.length cp)] 30 (0,0)))∧Aside0 (Below w.heap.size w wc))
 case first =>
  have H:=nb.out;clear nb;replace H:=zM H;obtain⟨eE,A4,H⟩:=H;replace H:=zb H;obtain⟨rfl,H⟩|⟨rfl,H⟩:=H
  ·have H':=zA H;clear H;obtain⟨FY,FZ,F0,F1,F2,F3,F4,F5,F6⟩:=zc9 bv.out;obtain⟨F7,F8,F9,Ga,Gb,Gc,Gd,Ge,Gf⟩:=zf9 bv.out;(go_wp2_with (first|((with_reducible refine zq3 (f:=27) rfl ?_);refine zq7 (some 6) rfl rfl Tryz.func27 zY2 rfl #[.int .i64 ai,.int .i64 1,.int .i64 999] rfl zY0 ?_;(with_reducible refine(yaK.calls ai 1 999 false _ A4.out).mono ?_);rintro e w' ⟨rfl,⟨nd,rfl⟩⟩;refine⟨_,rfl,?_⟩)));go_meet;case rel=>exact⟨_,(false),zY4,H',⟨by first|omega|exact Nat.le_refl _⟩,⟨zK bv.out⟩,⟨zB⟩⟩
  replace H:=zM H;obtain⟨lc,A6,H⟩:=H;replace H:=zb H;obtain⟨rfl,H⟩|⟨rfl,H⟩:=H
  ·have H':=zA H;clear H;obtain⟨qm,qn,vZ,wa,wb,wd,we,wg,wh⟩:=zc9 bv.out;obtain⟨qo,qp,wi,wj,wk,wl,wm,wn,wo⟩:=zf9 bv.out;(go_wp2_with (first|((with_reducible refine zq3 (f:=27) rfl ?_);refine zq7 (some 6) rfl rfl Tryz.func27 zY2 rfl #[.int .i64 ai,.int .i64 1,.int .i64 999] rfl zY0 ?_;(with_reducible refine(yaK.calls ai 1 999 true _ A4.out).mono ?_);rintro e w' ⟨rfl,⟨nd,rfl⟩⟩;refine⟨_,rfl,?_⟩)|(go_at_call 28;(with_reducible refine(ya8.calls k aM bf false _ ?side1 A6.out).mono ?_);(case side1=>exact zg);rintro e eD ⟨rfl,hb⟩;replace bv:=zA (zq2 (zK bv.out) hb);replace HB:=zA (zq1 zB hb);clear hb)));go_meet;case rel=>exact⟨_,(false),zY4,H',⟨by first|omega|exact Nat.le_refl _⟩,⟨zK bv.out⟩,⟨zB⟩⟩
  replace H:=zM H;obtain⟨dM,A8,H⟩:=H;have H':=zA H;clear H;obtain⟨nc,ne,wq,ws,wt,wu,wv,ww,wx⟩:=zc9 bv.out;obtain⟨nf,ng,wy,wz,wA,wB,wC,wD,wE⟩:=zf9 bv.out;(go_wp2_with (first|((with_reducible refine zq3 (f:=27) rfl ?_);refine zq7 (some 6) rfl rfl Tryz.func27 zY2 rfl #[.int .i64 ai,.int .i64 1,.int .i64 999] rfl zY0 ?_;(with_reducible refine(yaK.calls ai 1 999 true _ A4.out).mono ?_);rintro e w' ⟨rfl,⟨nd,rfl⟩⟩;refine⟨_,rfl,?_⟩)|(go_at_call 28;(with_reducible refine(ya8.calls k aM bf true _ ?side1 A6.out).mono ?_);(case side1=>exact zg);rintro e et ⟨rfl,hb⟩;replace bv:=zA (zq2 (zK bv.out) hb);replace HB:=zA (zq1 zB hb);clear hb;obtain⟨Gg,Gh,Gi,Gj,Gk,Gl,Gm,Gn,Gp⟩:=zc9 bv.out;obtain⟨Gq,Gr,Gs,Gt,Gu,Gv,Gw,Gx,Gy⟩:=zf9 bv.out)|(go_at_call 29;(with_reducible refine(ybk.calls bg bh _ _ aN _ _ aQ dM _ ?side1 ?side2 ?side3 ?side4 A8.out).mono ?_);(case side1=>exact zC (Kd.z0 eL.out HB.out));(case side2=>exact eM.out);(case side3=>exact zC (Kd.z0 eN.out HB.out));(case side4=>exact eO.out);rintro e ew ⟨rfl,hb⟩;replace bv:=zA (zq2 (zK bv.out) hb);replace HB:=zA (zq1 zB hb);clear hb)));go_meet;case rel=>exact⟨_,(dM),zY4,H',⟨by first|omega|exact Nat.le_refl _⟩,⟨zK bv.out⟩,⟨zB⟩⟩
 case rest =>
  clear nb;(try clear c1);(try clear c2);(try clear p2);(try clear c5);(try clear c7);(try clear sG);(try clear Gg Gh Gi Gj Gk Gl Gm Gn Gp);(try clear qm qn vZ wa wb wd we wg wh);(try clear FY FZ F0 F1 F2 F3 F4 F5 F6);(try clear nc ne wq ws wt wu wv ww wx);(try clear Gq Gr Gs Gt Gu Gv Gw Gx Gy);(try clear qo qp wi wj wk wl wm wn wo);(try clear F7 F8 F9 Ga Gb Gc Gd Ge Gf);(try clear nf ng wy wz wA wB wC wD wE);obtain⟨kq,au,rfl,HA,HJ1,bv,HB⟩:=hcut;cases kq with
  | zero=>exact absurd HA.out (by simp[yam.j0])
  | succ kj1 =>
   have H:=HA.out;clear HA;simp only[yam.j0]at H;replace H:=zf H zkQNqnk zkQqn;obtain⟨⟨c16b0,c16b1,oZ⟩,H⟩|⟨⟨c16b0,c16b1⟩,H⟩:=H
   ·replace H:=zh H zkQqn zkQNqnk;obtain⟨⟨c35b0,c35b1⟩,H⟩|⟨⟨c35b0,c35b1,Bi⟩,H⟩:=H
    ·replace H:=zbp H;obtain⟨rfl,H⟩|⟨rfl,H⟩:=H
     ·obtain rfl:=zs H;obtain⟨_,_,_,_,_,_,_,_,_⟩:=zc9 bv.out;obtain⟨_,_,_,_,_,_,_,_,_⟩:=zf9 bv.out;go_wp2;go_ret;exact⟨zT,zB⟩
     obtain rfl:=zs H;obtain⟨_,_,_,_,_,_,_,_,_⟩:=zc9 bv.out;obtain⟨_,_,_,_,_,_,_,_,_⟩:=zf9 bv.out;go_wp2;go_ret;exact⟨zT,zB⟩
    replace H:=zf H zkQNqnk zkQqn;obtain⟨⟨c39b0,c39b1,Oy⟩,H⟩|⟨⟨c39b0,c39b1⟩,H⟩:=H
    ·obtain rfl:=zs H;obtain⟨_,_,_,_,_,_,_,_,_⟩:=zc9 bv.out;obtain⟨_,_,_,_,_,_,_,_,_⟩:=zf9 bv.out;go_wp2;go_ret;exact⟨zT,zB⟩
    replace H:=zb H;obtain⟨rfl,H⟩|⟨rfl,H⟩:=H
    ·obtain rfl:=zs H;obtain⟨_,_,_,_,_,_,_,_,_⟩:=zc9 bv.out;obtain⟨_,_,_,_,_,_,_,_,_⟩:=zf9 bv.out;go_wp2;go_ret;exact⟨zT,zB⟩
    replace H:=zM H;obtain⟨gH,xf,H⟩:=H;obtain rfl:=zs H;obtain⟨_,_,_,_,_,_,_,_,_⟩:=zc9 bv.out;obtain⟨_,_,_,_,_,_,_,_,_⟩:=zf9 bv.out;(go_wp2_with (first|(go_at_call 31;(with_reducible refine(ybd.calls bj gH _ xf.out).mono ?_);rintro e w' ⟨rfl,⟨nd,rfl⟩⟩)));go_ret;exact⟨zT,zB⟩
   replace H:=zM H;obtain⟨ie,gL,H⟩:=H;replace H:=zb H;obtain⟨rfl,H⟩|⟨rfl,H⟩:=H
   ·obtain rfl:=zs H;obtain⟨_,_,_,_,_,_,_,_,_⟩:=zc9 bv.out;obtain⟨_,_,_,_,_,_,_,_,_⟩:=zf9 bv.out;(go_wp2_with (first|((with_reducible refine zq3 (f:=30) rfl ?_);refine zq7 (some 23) rfl rfl Tryz.func30 zY2 rfl #[.agg #[.string bg,.string bh,.slice cm aN.length cn,.slice co aQ.length cp]] rfl zY0 ?_;(with_reducible refine(ya5.calls kj1 bg bh _ _ aN _ _ aQ false _ ?side1 ?side2 ?side3 ?side4 ?side5 gL.out).mono ?_);(case side1=>exact zC (Kd.z0 eL.out HB.out));(case side2=>exact eM.out);(case side3=>exact zC (Kd.z0 eN.out HB.out));(case side4=>exact eO.out);(case side5=>exact zg);rintro e o7 ⟨rfl,hb⟩;refine⟨_,rfl,?_⟩;replace bv:=zA (zq2 (zK bv.out) hb);replace HB:=zA (zq1 zB hb);clear hb)));go_ret;exact⟨zT,zB⟩
   replace H:=zM H;obtain⟨i7,eg,H⟩:=H;replace H:=zb H;obtain⟨rfl,H⟩|⟨rfl,H⟩:=H
   ·obtain rfl:=zs H;obtain⟨_,_,_,_,_,_,_,_,_⟩:=zc9 bv.out;obtain⟨_,_,_,_,_,_,_,_,_⟩:=zf9 bv.out;(go_wp2_with (first|((with_reducible refine zq3 (f:=30) rfl ?_);refine zq7 (some 23) rfl rfl Tryz.func30 zY2 rfl #[.agg #[.string bg,.string bh,.slice cm aN.length cn,.slice co aQ.length cp]] rfl zY0 ?_;(with_reducible refine(ya5.calls kj1 bg bh _ _ aN _ _ aQ true _ ?side1 ?side2 ?side3 ?side4 ?side5 gL.out).mono ?_);(case side1=>exact zC (Kd.z0 eL.out HB.out));(case side2=>exact eM.out);(case side3=>exact zC (Kd.z0 eN.out HB.out));(case side4=>exact eO.out);(case side5=>exact zg);rintro e kB ⟨rfl,hb⟩;refine⟨_,rfl,?_⟩;replace bv:=zA (zq2 (zK bv.out) hb);replace HB:=zA (zq1 zB hb);clear hb;obtain⟨_,_,_,_,_,_,_,_,_⟩:=zc9 bv.out;obtain⟨_,_,_,_,_,_,_,_,_⟩:=zf9 bv.out)|(go_at_call 31;(with_reducible refine(ybd.calls bj false _ eg.out).mono ?_);rintro e w' ⟨rfl,⟨nd,rfl⟩⟩)));go_ret;exact⟨zT,zB⟩
   replace H:=zf H zkQNqnk zkQqn;obtain⟨⟨c21b0,c21b1,gZ⟩,H⟩|⟨⟨c21b0,c21b1⟩,H⟩:=H
   ·obtain rfl:=zs H;obtain⟨_,_,_,_,_,_,_,_,_⟩:=zc9 bv.out;obtain⟨_,_,_,_,_,_,_,_,_⟩:=zf9 bv.out;(go_wp2_with (first|((with_reducible refine zq3 (f:=30) rfl ?_);refine zq7 (some 23) rfl rfl Tryz.func30 zY2 rfl #[.agg #[.string bg,.string bh,.slice cm aN.length cn,.slice co aQ.length cp]] rfl zY0 ?_;(with_reducible refine(ya5.calls kj1 bg bh _ _ aN _ _ aQ true _ ?side1 ?side2 ?side3 ?side4 ?side5 gL.out).mono ?_);(case side1=>exact zC (Kd.z0 eL.out HB.out));(case side2=>exact eM.out);(case side3=>exact zC (Kd.z0 eN.out HB.out));(case side4=>exact eO.out);(case side5=>exact zg);rintro e eG ⟨rfl,hb⟩;refine⟨_,rfl,?_⟩;replace bv:=zA (zq2 (zK bv.out) hb);replace HB:=zA (zq1 zB hb);clear hb;obtain⟨_,_,_,_,_,_,_,_,_⟩:=zc9 bv.out;obtain⟨_,_,_,_,_,_,_,_,_⟩:=zf9 bv.out)|(go_at_call 31;(with_reducible refine(ybd.calls bj true _ eg.out).mono ?_);rintro e w' ⟨rfl,⟨nd,rfl⟩⟩)));go_ret;exact⟨zT,zB⟩
   replace H:=zM H;obtain⟨fC,Gz,H⟩:=H;obtain rfl:=zs H;obtain⟨_,_,_,_,_,_,_,_,_⟩:=zc9 bv.out;obtain⟨_,_,_,_,_,_,_,_,_⟩:=zf9 bv.out;(go_wp2_with (first|((with_reducible refine zq3 (f:=30) rfl ?_);refine zq7 (some 23) rfl rfl Tryz.func30 zY2 rfl #[.agg #[.string bg,.string bh,.slice cm aN.length cn,.slice co aQ.length cp]] rfl zY0 ?_;(with_reducible refine(ya5.calls kj1 bg bh _ _ aN _ _ aQ true _ ?side1 ?side2 ?side3 ?side4 ?side5 gL.out).mono ?_);(case side1=>exact zC (Kd.z0 eL.out HB.out));(case side2=>exact eM.out);(case side3=>exact zC (Kd.z0 eN.out HB.out));(case side4=>exact eO.out);(case side5=>exact zg);rintro e pa ⟨rfl,hb⟩;refine⟨_,rfl,?_⟩;replace bv:=zA (zq2 (zK bv.out) hb);replace HB:=zA (zq1 zB hb);clear hb;obtain⟨_,_,_,_,_,_,_,_,_⟩:=zc9 bv.out;obtain⟨_,_,_,_,_,_,_,_,_⟩:=zf9 bv.out)|(go_at_call 31;(with_reducible refine(ybd.calls bj true _ eg.out).mono ?_);rintro e w' ⟨rfl,⟨nd,rfl⟩⟩)|(go_at_call 32;(with_reducible refine(yaD.calls aM bf fC _ Gz.out).mono ?_);rintro e xd ⟨rfl,hb⟩;replace bv:=zA (zq2 (zK bv.out) hb);replace HB:=zA (zq1 zB hb);clear hb)));go_ret;exact⟨zT,zB⟩
end Go.Proofs.YtjdpdkdhfnpcgaaGreatDoor.Q
namespace Go.Proofs.YtjdpdkdhfnpcgaaGreatDoor.Q
open Go.RowKit Go.Proofs.YtjdpdkdhfnpcgaaGreatDoorW.PrintWords Go.Proofs.YtjdpdkdhfnpcgaaGreatDoorW.PrintLast Go.Proofs.YtjdpdkdhfnpcgaaGreatDoorW.PrintMore
set_option linter.unusedVariables false
set_option linter.unusedSimpArgs false
namespace HDot
theorem sizeB : (Tryz.prog.info? 128).map (·.size) = some 2 := by kernel_rfl
theorem liesB : liesAt Tryz.prog Tryz.prog.depth 128 (2 / Tryz.prog.cellsOf 128) 0 128 1 = true := by kernel_rfl
theorem infoByte : (Tryz.prog.info? 5).map (fun i => (i.zero, i.size, i.bytes)) = some (some (.int .u8 0), 1, 1) := by kernel_rfl
theorem used (b : Nat)(w : World)(h0 : w.cell? ⟨b, 0, none⟩ = some (.pointer (some ⟨b, 0, none⟩))) :
    Calls Tryz.prog 139 #[.pointer (some ⟨b, 0, none⟩)] w fun e w' => e = .returned (.tuple #[]) ∧ w' = w := by
  obtain⟨j, hj, _⟩ := Option.map_eq_some_iff.1 sizeB
  have t72 := Tryz.underlying128; have u72 := run_underlying t72
  have t70 := Tryz.underlying126; have u70 := run_underlying t70
  go_enter Tryz.func139, Tryz.ntmps139
  go_wp2
  rw[Lib.run_neq_ptr_same w _ Tryz.underlying126 hj]
  go_wp2
  go_end0
  exact⟨rfl, rfl⟩
theorem fresh (b : Nat)(w : World)(h0 : w.cell? ⟨b, 0, none⟩ = some (.pointer none))(hsh : w.shape? b = some (128, 2))(hfz : w.frozen? ⟨b, 0, none⟩ = false) :
    Calls Tryz.prog 139 #[.pointer (some ⟨b, 0, none⟩)] w fun e w' => e = .returned (.tuple #[]) ∧ w' = w.setCell ⟨b, 0, none⟩ (.pointer (some ⟨b, 0, none⟩)) := by
  obtain⟨j, hj, hjs⟩ := Option.map_eq_some_iff.1 sizeB
  have t72 := Tryz.underlying128; have u72 := run_underlying t72
  have t70 := Tryz.underlying126; have u70 := run_underlying t70
  have t164 := Tryz.underlying176; have u164 := run_underlying t164
  go_enter Tryz.func139, Tryz.ntmps139
  go_wp2
  rw[Lib.run_to_unsafe w ⟨b, 0, none⟩ Tryz.underlying126 Tryz.underlying176 hj (by rw[hjs]; decide) hsh (Nat.zero_lt_succ 1)]
  simp only[Result.andThen]
  rw[Oper.upon_value]
  go_wp2
  rw[run_callFunc_extern Tryz.func172 (by kernel_rfl) (by kernel_rfl) (by kernel_rfl) (e := Extern.AbiNoEscape.same) (by kernel_rfl)]
  rw[Lib.run_noEscape]
  simp only[Result.andThen]
  rw[Oper.upon_value]
  go_wp2
  rw[Lib.run_from_unsafe w ⟨b, 0, none⟩ Tryz.underlying176 Tryz.underlying126 hj hsh liesB]
  simp only[Result.andThen]
  rw[Oper.upon_value]
  go_wp2
  go_end0
  exact⟨rfl, rfl⟩
theorem check (B b : Nat)(bs : List Value)(w : World)(h : Lib.IsBuilderF 128 5 B b bs w) :
    Calls Tryz.prog 139 #[.pointer (some ⟨b, 0, none⟩)] w fun e w' => e = .returned (.tuple #[]) ∧ Lib.BuilderAtF 128 5 B b (.pointer (some ⟨b, 0, none⟩)) bs w' ∧ Below B w w' := by
  rcases h with h | h
  · refine(fresh b w h.cell0 h.shape h.frozen0).mono ?_
    rintro e w' ⟨rfl, rfl⟩
    exact⟨rfl, h.used _, (Below.refl B w).setCell (p := ⟨b, 0, none⟩) h.1 _⟩
  · refine(used b w h.cell0).mono ?_
    rintro e w' ⟨rfl, rfl⟩
    exact⟨rfl, h, Below.refl B _⟩
theorem writeByte (B b : Nat)(bs : List Value)(c : Int)(w : World)(h : Lib.IsBuilderF 128 5 B b bs w)(hlen : bs.length + 1 ≤ 140737488355328)(hBw : B ≤ w.heap.size) :
    Calls Tryz.prog 104 #[.pointer (some ⟨b, 0, none⟩), .int .u8 c] w fun e w' => e = .returned .nilIface ∧ Lib.BuilderAtF 128 5 B b (.pointer (some ⟨b, 0, none⟩)) (bs ++ [.int .u8 c]) w' ∧ Below B w w' := by
  obtain⟨i0, hi, hz0, hz1, hz2⟩ := info_parts infoByte
  have u72 := run_underlying Tryz.underlying128
  have u70 := run_underlying Tryz.underlying126
  have u5 := run_underlying Tryz.underlying5
  have u37 := run_underlying Tryz.underlying22
  go_enter Tryz.func104, Tryz.ntmps104
  go_wp2_with (go_at_call 139; refine(check B b bs _ h).mono ?_)
  rintro e w1 ⟨rfl, h1, hb1⟩
  obtain⟨hB, v, hbk, hown, hne⟩ := h1
  have c0 : w1.cell? ⟨b, 0, none⟩ = some (.pointer (some ⟨b, 0, none⟩)) := by rw[Lib.cell_of_heap hbk]; rfl
  have c1 : w1.cell? ⟨b, 1, none⟩ = some v := by rw[Lib.cell_of_heap hbk]; rfl
  go_wp2_with (at_builtin; refine wpList_append_ownF _ rfl _ _ 22 rfl B 5 i0 (.int .u8 0) 1 1 Tryz.underlying22 hi hz0 hz1 hz2 rfl (by decide) _ _ _ rfl (hown.alloc _) ⟨w1.heap.size, 0, none⟩ 1 1 [.int .u8 c] rfl rfl ?c1 ?c2 ?c3 ?c4 ?c5 ?_)
  case c1 =>
    intro j u hj
    match j, hj with
    | 0, hj => simp at hj; subst hj; simp[Addr.add]
  case c2 => intro u hu; simp at hu; subst hu; rfl
  case c3 => unfold maxLen; omega
  case c4 => omega
  case c5 => have := hb1.size; simp; omega
  intro v' w2 hown' hgrow _
  have hlt : b<w1.heap.size := by
    rcases Nat.lt_or_ge b w1.heap.size with h' | h'
    · exact h'
    · simp[Array.getElem?_eq_none h']at hbk
  have hb2 : w2.heap[b]? = some (.cells #[.pointer (some ⟨b, 0, none⟩), v] 128 (0, 0)) := by
    rw[hgrow.block b (by simp; omega) (fun e => hne e.symm), Lib.alloc_old w1 _ b hlt]
    exact hbk
  have d0 : w2.cell? ⟨b, 0, none⟩ = some (.pointer (some ⟨b, 0, none⟩)) := by rw[Lib.cell_of_heap hb2]; rfl
  have d1 : w2.cell? ⟨b, 1, none⟩ = some v := by rw[Lib.cell_of_heap hb2]; rfl
  have f1 : w2.frozen? ⟨b, 1, none⟩ = false := Lib.frozen_of_heap hb2 1
  obtain⟨g, cap, rfl⟩ : ∃ g cap, v' = .slice (some ⟨g, 0, none⟩) (bs.length + 1) cap := by
    rcases hown'.2 with ⟨_, h0⟩ | ⟨g, cap, cur, fz, hv, _⟩
    · omega
    · exact⟨g, cap, hv⟩
  go_wp2
  go_ret
  refine⟨rfl, ?_, ?_⟩
  · exact Lib.BuilderAtF.put (T := 128) (e := 5) hB hb2 (bs' := bs ++ [.int .u8 c]) (by simpa using hown') (by decide)
  · exact((hb1.alloc (by have := hb1.size; omega) _).grown hgrow (by have := hb1.size; simp; omega) (fun k hk => (hown.lt k hk).1)).setCell (p := ⟨b, 1, none⟩) hB _
theorem writeString (B b : Nat)(bs : List Value)(s : ByteArray)(w : World)(h : Lib.IsBuilderF 128 5 B b bs w)(hlen : bs.length + s.size ≤ 140737488355328)(hBw : B ≤ w.heap.size) :
    Calls Tryz.prog 105 #[.pointer (some ⟨b, 0, none⟩), .string s] w fun e w' => e = .returned (.tuple #[.int .i64 s.size, .nilIface]) ∧ Lib.BuilderAtF 128 5 B b (.pointer (some ⟨b, 0, none⟩)) (bs ++ Lib.strCells s) w' ∧ Below B w w' := by
  obtain⟨i0, hi, hz0, hz1, hz2⟩ := info_parts infoByte
  have u72 := run_underlying Tryz.underlying128
  have u70 := run_underlying Tryz.underlying126
  have u5 := run_underlying Tryz.underlying5
  have u37 := run_underlying Tryz.underlying22
  have u9 := run_underlying Tryz.underlying9
  go_enter Tryz.func105, Tryz.ntmps105
  go_wp2_with (go_at_call 139; refine(check B b bs _ h).mono ?_)
  rintro e w1 ⟨rfl, h1, hb1⟩
  obtain⟨hB, v, hbk, hown, hne⟩ := h1
  have c0 : w1.cell? ⟨b, 0, none⟩ = some (.pointer (some ⟨b, 0, none⟩)) := by rw[Lib.cell_of_heap hbk]; rfl
  have c1 : w1.cell? ⟨b, 1, none⟩ = some v := by rw[Lib.cell_of_heap hbk]; rfl
  go_wp2_with (at_builtin; refine Lib.wpList_append_own_stringF _ rfl _ _ 22 9 rfl B 5 i0 Tryz.underlying22 Tryz.underlying9 hi hz0 hz1 hz2 _ _ _ rfl hown s rfl ?c3 ?c4 ?c5 ?_)
  case c3 => unfold maxLen; omega
  case c4 => omega
  case c5 => have := hb1.size; omega
  intro v' w2 hown' hgrow _
  have hlt : b<w1.heap.size := by
    rcases Nat.lt_or_ge b w1.heap.size with h' | h'
    · exact h'
    · simp[Array.getElem?_eq_none h']at hbk
  have hb2 : w2.heap[b]? = some (.cells #[.pointer (some ⟨b, 0, none⟩), v] 128 (0, 0)) := by
    rw[hgrow.block b hlt (fun e => hne e.symm)]
    exact hbk
  have d0 : w2.cell? ⟨b, 0, none⟩ = some (.pointer (some ⟨b, 0, none⟩)) := by rw[Lib.cell_of_heap hb2]; rfl
  have d1 : w2.cell? ⟨b, 1, none⟩ = some v := by rw[Lib.cell_of_heap hb2]; rfl
  have f1 : w2.frozen? ⟨b, 1, none⟩ = false := Lib.frozen_of_heap hb2 1
  obtain⟨ao, n', cap, rfl⟩ : ∃ ao n' cap, v' = .slice ao n' cap := by
    rcases hown'.2 with ⟨hv, _⟩ | ⟨g, cap, cur, fz, hv, _⟩
    · exact⟨_, _, _, hv⟩
    · exact⟨_, _, _, hv⟩
  go_wp2
  go_ret2
  refine⟨rfl, ?_, ?_⟩
  · exact Lib.BuilderAtF.put (T := 128) (e := 5) hB hb2 (bs' := bs ++ Lib.strCells s) (by simpa [Lib.strCells_length]using hown') (by decide)
  · exact(hb1.grown hgrow (by have := hb1.size; omega) (fun k hk => (hown.lt k hk).1)).setCell (p := ⟨b, 1, none⟩) hB _
end HDot
def dotLine (l : List UInt8) : List UInt8 := (if Lib.hasPrefix l [46] = true then[46]else[]) ++ (l ++ [13, 10])
def dotLines (ls : List ByteArray) : List UInt8 := ls.flatMap fun s => dotLine s.data.toList
def ybh.f (l0 : List ByteArray) : Option ByteArray := if(dotLines l0).length ≤ 1099511627776 then some ⟨(dotLines l0 ++ [46, 13, 10]).toArray⟩else none
theorem dotLines_take (ls : List ByteArray)(k : Nat)(h : k<ls.length) : dotLines (ls.take (k + 1)) = dotLines (ls.take k) ++ dotLine (ls.getD k ByteArray.empty).data.toList := by
  unfold dotLines
  rw[List.take_succ_eq_append_getElem h, List.flatMap_append, List.getD_eq_getElem?_getD, List.getElem?_eq_getElem h]
  simp
theorem dotLines_le (ls : List ByteArray)(k : Nat) : (dotLines (ls.take k)).length ≤ (dotLines ls).length := by
  conv => rhs; rw[← List.take_append_drop k ls]
  unfold dotLines
  rw[List.flatMap_append, List.length_append]
  omega
theorem strCells_byte (s : ByteArray) : Lib.strCells s = Lib.byteCells s.data.toList := rfl
theorem data_append (a b : ByteArray) : (a ++ b).data.toList = a.data.toList ++ b.data.toList := by
  rw[ByteArray.data_append, Array.toList_append]
theorem size_crlf (line : ByteArray) : (line ++ ⟨#[13, 10]⟩).size = line.size + 2 := by
  rw[Lib.size_eq, data_append, List.length_append, ← Lib.size_eq]
  rfl
theorem cells_plain (acc : List UInt8)(line : ByteArray) : Lib.byteCells (acc ++ (line.data.toList ++ [13, 10])) = Lib.byteCells acc ++ Lib.strCells (line ++ ⟨#[13, 10]⟩) := by
  rw[Lib.byteCells_append, strCells_byte, data_append]
theorem cells_dot (acc : List UInt8)(line : ByteArray) : Lib.byteCells (acc ++ ([46] ++ (line.data.toList ++ [13, 10]))) = Lib.byteCells acc ++ [.int .u8 46] ++ Lib.strCells (line ++ ⟨#[13, 10]⟩) := by
  rw[← List.append_assoc, cells_plain, Lib.byteCells_append]
  rfl
theorem ybh.calls (A0 : Option Addr)(c0 : Nat)(l0 : List ByteArray)(r : ByteArray)(w : World)(hr0 : Kd.C Kd.string w A0 l0.length l0)(hc0 : l0.length ≤ c0)(h : ybh.f l0 = some r) :
    Calls Tryz.prog 55 #[.slice A0 l0.length c0] w fun e w' => e = .returned (.string r) ∧ Below w.heap.size w w' := by
  unfold ybh.f at h
  split at h
  case isFalse => cases h
  case isTrue hlen =>
    injection h with h
    have hR := Aside0.mk h
    have hlen2 := Aside0.mk hlen
    have hc0' := Aside0.mk hc0
    clear h hlen hc0
    have hm : l0.length ≤ 9223372036854775807 := hr0.2.1
    go_enter Tryz.func55, Tryz.ntmps55
    go_wp2
    go_loopw [8] (fun i wr => ∃ k : Nat, k ≤ l0.length ∧ i = .int .i64 k ∧ Lib.IsBuilderF 128 5 w.heap.size w.heap.size (Lib.byteCells (dotLines (l0.take k))) wr ∧ w.heap.size<wr.heap.size ∧ Below w.heap.size w wr) (fun i _ => l0.length - (intOf i).toNat)
    case atStart =>
      exact⟨0, Nat.zero_le _, rfl, Lib.IsBuilderF.of (Lib.fresh_isBuilder 128 5 w), by simp, (Below.refl _ w).alloc (Nat.le_refl _) _⟩
    case round =>
      obtain⟨k, hk, rfl, hI, hsz, hbw⟩ := hrel
      by_cases hlt : k<l0.length
      · have hC := Kd.z0 hr0 hbw
        obtain⟨ad, e1, hx⟩ := Kd.z23 hC (k : Int) (by omega) (by omega)
        cases e1
        have hts := Aside0.mk (dotLines_take l0 k hlt)
        have hle := dotLines_le l0 (k + 1)
        have hle0 := dotLines_le l0 k
        have hle2 : (dotLines (l0.take k)).length + (dotLine (l0.getD k ByteArray.empty).data.toList).length ≤ 1099511627776 := by
          have := hlen2.out
          rw[hts.out, List.length_append]at hle
          omega
        have hdl : (l0.getD k ByteArray.empty).size + 2 ≤ (dotLine (l0.getD k ByteArray.empty).data.toList).length := by
          unfold dotLine
          simp only[List.length_append, Lib.size_eq, List.length_cons, List.length_nil]
          omega
        have hrd : rdOf ByteArray.empty l0 (k : Int) = l0.getD k ByteArray.empty := by unfold rdOf; rw[Int.toNat_natCast]
        rw[hrd, Int.toNat_natCast]at hx
        clear hrd hC hle hle0
        have hsz2 : (l0.getD k ByteArray.empty).size + 2 ≤ 9223372036854775807 := by omega
        have hl2 := Aside0.mk hle2
        clear hle2 hdl
        generalize l0.getD k ByteArray.empty = line at *
        generalize hacc : dotLines (l0.take k) = acc at *
        clear hacc
        by_cases hp : Lib.hasPrefix line.data.toList [46] = true
        · have hd : dotLine line.data.toList = [46] ++ (line.data.toList ++ [13, 10]) := by unfold dotLine; rw[if_pos hp]
          rw[hd]at hts hl2
          clear hd
          go_wp2_with (first | (go_at_call 103; refine(Tryz.strings_HasPrefix line ⟨#[46]⟩ _).mono ?_; rintro e w' ⟨rfl, rfl⟩) | (go_at_call 104; refine(HDot.writeByte w.heap.size w.heap.size _ 46 _ hI (by rw[Lib.byteCells_length]; have := hl2.out; simp at this; omega) (by omega)).mono ?_))
          rintro e W1 ⟨rfl, h1, b1⟩
          have hs1 := b1.size
          have hw := Aside0.mk (show(Lib.byteCells acc ++ [Value.int .u8 46]).length + (line ++ ⟨#[13, 10]⟩).size ≤ 140737488355328 by
            have := hl2.out
            rw[List.length_append, Lib.byteCells_length, size_crlf]
            simp at this ⊢
            omega)
          have hb : w.heap.size ≤ W1.heap.size := by omega
          have h1' : Lib.IsBuilderF 128 5 w.heap.size w.heap.size (Lib.byteCells acc ++ [Value.int .u8 46]) W1 := Or.inr h1
          go_wp2_with (go_at_call 105; (with_reducible refine(HDot.writeString w.heap.size w.heap.size (Lib.byteCells acc ++ [Value.int .u8 46]) (line ++ ⟨#[13, 10]⟩) _ h1' hw.out hb).mono ?_))
          rintro e W2 ⟨rfl, h2, b2⟩
          have hs2 := b2.size
          go_wp2
          go_roundw
          case rel =>
            refine⟨k + 1, by omega, by go_num, ?_, by omega, hbw.trans (b1.trans b2)⟩
            rw[hts.out, cells_dot]
            exact Or.inr h2
          case measure => simp[intOf]; omega
        · have hp' : Lib.hasPrefix line.data.toList [46] = false := by simpa using hp
          have hd : dotLine line.data.toList = line.data.toList ++ [13, 10] := by unfold dotLine; rw[if_neg hp]; rfl
          rw[hd]at hts hl2
          clear hd hp
          have hw := Aside0.mk (show(Lib.byteCells acc).length + (line ++ ⟨#[13, 10]⟩).size ≤ 140737488355328 by
            have := hl2.out
            rw[Lib.byteCells_length, size_crlf]
            simp at this ⊢
            omega)
          have hb : w.heap.size ≤ wr.heap.size := by omega
          go_wp2_with (first | (go_at_call 103; (with_reducible refine(Tryz.strings_HasPrefix line ⟨#[46]⟩ _).mono ?_); rintro e w' ⟨rfl, rfl⟩) | (go_at_call 105; (with_reducible refine(HDot.writeString w.heap.size w.heap.size (Lib.byteCells acc) (line ++ ⟨#[13, 10]⟩) _ hI hw.out hb).mono ?_)))
          rintro e W2 ⟨rfl, h2, b2⟩
          have hs2 := b2.size
          go_wp2
          go_roundw
          case rel =>
            refine⟨k + 1, by omega, by go_num, ?_, by omega, hbw.trans b2⟩
            rw[hts.out, cells_plain]
            exact Or.inr h2
          case measure => simp[intOf]; omega
      · have hke : k = l0.length := by omega
        subst hke
        have hle2 := hlen2.out
        rw[List.take_length]at hI
        generalize hacc : dotLines l0 = acc at *
        clear hacc
        have hs3 : (Lib.byteCells acc).length + (⟨#[46, 13, 10]⟩ : ByteArray).size ≤ 140737488355328 := by
          have : (⟨#[46, 13, 10]⟩ : ByteArray).size = 3 := rfl
          rw[Lib.byteCells_length]
          omega
        have hs4 : w.heap.size ≤ wr.heap.size := by omega
        have hs5 := Aside0.mk hs3
        clear hs3 hle2
        go_wp2_with (go_at_call 105; (with_reducible refine(HDot.writeString w.heap.size w.heap.size (Lib.byteCells acc) ⟨#[46, 13, 10]⟩ _ hI hs5.out hs4).mono ?_))
        rintro e W1 ⟨rfl, h1, b1⟩
        have hs1 := b1.size
        have h2 : Lib.IsBuilderF 128 5 w.heap.size w.heap.size (Lib.byteCells (acc ++ [46, 13, 10])) W1 := by
          rw[Lib.byteCells_append]
          exact Or.inr h1
        go_wp2_with (go_at_call 106; refine(Tryz.Builder_String_any_k w.heap.size w.heap.size (acc ++ [46, 13, 10]) _ h2 (by omega)).mono ?_)
        rintro e W2 ⟨rfl, _, b2, _⟩
        go_wp2
        go_ret
        exact⟨congrArg (fun s => Ending.returned (Value.string s)) hR.out, hbw.trans (b1.trans b2)⟩
end Go.Proofs.YtjdpdkdhfnpcgaaGreatDoor.Q
namespace Go.Proofs.YtjdpdkdhfnpcgaaGreatDoor.Q
open Go.RowKit Go.Proofs.YtjdpdkdhfnpcgaaGreatDoorW.PrintWords Go.Proofs.YtjdpdkdhfnpcgaaGreatDoorW.PrintLast Go.Proofs.YtjdpdkdhfnpcgaaGreatDoorW.PrintMore
attribute [local go_sem] max2_int min2_int max_two min_two max_three min_three max_four min_four
set_option linter.unusedVariables false
set_option linter.unusedSimpArgs false
def yaM.f (ag:ByteArray)(ai:ByteArray):Option (ByteArray):=(yaD.f ag ai).bind fun eZ=>(if eZ=true then(some (⟨#[60,62]⟩:ByteArray))else(if 1+ag.size≤9223372036854775807 then(if((⟨#[60]⟩:ByteArray)++ag).size+1≤9223372036854775807 then(if(((⟨#[60]⟩:ByteArray)++ag)++(⟨#[64]⟩:ByteArray)).size+ai.size≤9223372036854775807 then(if((((⟨#[60]⟩:ByteArray)++ag)++(⟨#[64]⟩:ByteArray))++ai).size+1≤9223372036854775807 then(some (((((⟨#[60]⟩:ByteArray)++ag)++(⟨#[64]⟩:ByteArray))++ai)++(⟨#[62]⟩:ByteArray)))else(none))else(none))else(none))else(none)))
theorem yaM.calls (ag:ByteArray)(ai:ByteArray)(r:ByteArray)(w:World)(h:yaM.f ag ai=some r) :
 Calls Tryz.prog 24 #[.agg #[.string ag,.string ai]] w fun e w'=>e=.returned (.string r)∧Below w.heap.size w w':=by
 have hu24:=Tryz.underlying24;have HB:=zA (Below.refl w.heap.size w);have H:=h;clear h;unfold yaM.f at H;replace H:=zM H;obtain⟨eZ,A2,H⟩:=H;replace H:=zbp H;obtain⟨rfl,H⟩|⟨rfl,H⟩:=H
 ·obtain rfl:=zs H;go_enter Tryz.func24,Tryz.ntmps24;(go_wp2_with (first|((with_reducible refine zq5 (N:=1) rfl ?_);refine zE (N:=1) (cs:=#[.string ag,.string ai]) (t:=24) ?_;intro dq hg w4 hbox hb;have bx:=zA hbox;have jL:=zA (zS hg:w.heap.size≤dq);have jM:=zA (zS hg:w.heap.size≤dq);replace HB:=zA (zq1 zB hb);clear hb hbox hg;obtain⟨_,_⟩:=zc2 bx.out;obtain⟨_,_⟩:=zf2 bx.out)|((with_reducible refine zq3 (f:=32) rfl ?_);refine zq7 (some 4) rfl rfl Tryz.func32 zY2 rfl #[.agg #[.string ag,.string ai]] rfl zY0 ?_;(with_reducible refine(yaD.calls ag ai true _ A2.out).mono ?_);rintro e w6 ⟨rfl,hb⟩;refine⟨_,rfl,?_⟩;replace bx:=zA (zq2 (zK bx.out) hb);replace HB:=zA (zq1 zB hb);clear hb)));go_ret;exact⟨zT,zB⟩
 replace H:=zp H zkLtdlk;obtain⟨⟨c7b0,c7b1,c7b2,c7⟩,H⟩:=H;replace H:=zp H zkLtdlkk;obtain⟨⟨c8b0,c8b1,c8b2,c8b3,c8⟩,H⟩:=H;try simp only[ByteArray.size_append',sz1,sz2,sz3,sz4,sz5,sz6,sz7,sz8]at c8b3
 try have c8b4:=eq_true c8b3
 try have c8b5:=eq_false (Nat.not_lt.2 c8b3)
 replace H:=zp H zkLtdlkk;obtain⟨⟨c9b0,c9b1,c9b2,c9b3,c9⟩,H⟩:=H;try simp only[ByteArray.size_append',sz1,sz2,sz3,sz4,sz5,sz6,sz7,sz8]at c9b3
 try have c9b4:=eq_true c9b3
 try have c9b5:=eq_false (Nat.not_lt.2 c9b3)
 replace H:=zp H zkLtdlkk;obtain⟨⟨c10b0,c10b1,c10b2,c10b3,sG⟩,H⟩:=H;try simp only[ByteArray.size_append',sz1,sz2,sz3,sz4,sz5,sz6,sz7,sz8]at c10b3
 try have c10b4:=eq_true c10b3
 try have c10b5:=eq_false (Nat.not_lt.2 c10b3)
 obtain rfl:=zs H;go_enter Tryz.func24,Tryz.ntmps24;go_wp2_with (first|((with_reducible refine zq5 (N:=1) rfl ?_);refine zE (N:=1) (cs:=#[.string ag,.string ai]) (t:=24) ?_;intro dq hg gK hbox hb;have bx:=zA hbox;have jL:=zA (zS hg:w.heap.size≤dq);have jM:=zA (zS hg:w.heap.size≤dq);replace HB:=zA (zq1 zB hb);clear hb hbox hg;obtain⟨_,_⟩:=zc2 bx.out;obtain⟨_,_⟩:=zf2 bx.out)|((with_reducible refine zq3 (f:=32) rfl ?_);refine zq7 (some 4) rfl rfl Tryz.func32 zY2 rfl #[.agg #[.string ag,.string ai]] rfl zY0 ?_;(with_reducible refine(yaD.calls ag ai false _ A2.out).mono ?_);rintro e gy ⟨rfl,hb⟩;refine⟨_,rfl,?_⟩;replace bx:=zA (zq2 (zK bx.out) hb);replace HB:=zA (zq1 zB hb);clear hb;obtain⟨_,_⟩:=zc2 bx.out;obtain⟨_,_⟩:=zf2 bx.out))
 go_ret;exact⟨zT,zB⟩
def yaI.l0:Nat→ByteArray→List (S24)→Int→Int→ByteArray→ByteArray→List (S24)→List ByteArray→Option (ByteArray)
 | 0,_,_,_,_,_,_,_,_=>none
 | k+1,x3,pb,Bj,pc,GA,GB,GC,Bk=>if pc<Bj then(if 0≤pc then(if pc<(pb.length:Int)then((yaM.f ((zq14 pb pc).f0) ((zq14 pb pc).f1)).bind fun ie=>(if 3+ie.size≤9223372036854775807 then(if((⟨#[116,111,32]⟩:ByteArray)++ie).size+2≤9223372036854775807 then(if x3.size+(((⟨#[116,111,32]⟩:ByteArray)++ie)++(⟨#[13,10]⟩:ByteArray)).size≤9223372036854775807 then(yaI.l0 k (x3++(((⟨#[116,111,32]⟩:ByteArray)++ie)++(⟨#[13,10]⟩:ByteArray))) pb Bj (wrap64 (pc+1)) GA GB GC Bk)else(none))else(none))else(none)))else(none))else(none))else(if x3.size+2≤9223372036854775807 then((ybh.f Bk).bind fun i7=>(if(x3++(⟨#[13,10]⟩:ByteArray)).size+i7.size≤9223372036854775807 then(some ((x3++(⟨#[13,10]⟩:ByteArray))++i7))else(none)))else(none))
def yaI.f (k:Nat)(ag:ByteArray)(ai:ByteArray)(ay:List (S24))(bc:List ByteArray):Option (ByteArray):=(ya5.f k ag ai ay bc).bind fun eZ=>(if eZ=true then((yaM.f ag ai).bind fun eE=>(if 5+eE.size≤9223372036854775807 then(if((⟨#[102,114,111,109,32]⟩:ByteArray)++eE).size+2≤9223372036854775807 then(yaI.l0 k (((⟨#[102,114,111,109,32]⟩:ByteArray)++eE)++(⟨#[13,10]⟩:ByteArray)) ay (ay.length:Int) 0 ag ai ay bc)else(none))else(none)))else(some (⟨#[]⟩:ByteArray)))
theorem yaI.calls (k:Nat)(ag:ByteArray)(ai:ByteArray)(dr:Option Addr)(dg:Nat)(ay:List (S24))(cI:Option Addr)(cJ:Nat)(bc:List ByteArray)(r:ByteArray)(w:World)(gI:Kd.C k24 w dr ay.length ay)(gJ:ay.length≤dg)(fD:Kd.C Kd.string w cI bc.length bc)(fE:bc.length≤cJ)(hG:GOK w)(h:yaI.f k ag ai ay bc=some r) :
 Calls Tryz.prog 23 #[.agg #[.string ag,.string ai,.slice dr ay.length dg,.slice cI bc.length cJ]] w fun e w'=>e=.returned (.string r)∧Below w.heap.size w w':=by
 have hu28:=Tryz.underlying28;have hu24:=Tryz.underlying24;have fj:=zA gI;have iv:=zA gJ;clear gI gJ;have ft:=zA fD;have gv:=zA fE;clear fD fE;have HG:=zA hG;clear hG;have HB:=zA (Below.refl w.heap.size w);have H:=h;clear h;unfold yaI.f at H;replace H:=zM H;obtain⟨eZ,A2,H⟩:=H;replace H:=zb H;obtain⟨rfl,H⟩|⟨rfl,H⟩:=H
 ·obtain rfl:=zs H;go_enter Tryz.func23,Tryz.ntmps23;(go_wp2_with (first|((with_reducible refine zq5 (N:=1) rfl ?_);refine zE (N:=1) (cs:=#[.string ag,.string ai,.slice dr ay.length dg,.slice cI bc.length cJ]) (t:=28) ?_;intro dq hg me hbox hb;have bx:=zA hbox;have jL:=zA (zS hg:w.heap.size≤dq);have jM:=zA (zS hg:w.heap.size≤dq);replace HB:=zA (zq1 zB hb);clear hb hbox hg;obtain⟨_,_,_,_⟩:=zc4 bx.out;obtain⟨_,_,_,_⟩:=zf4 bx.out)|((with_reducible refine zq3 (f:=30) rfl ?_);refine zq7 (some 7) rfl rfl Tryz.func30 zY2 rfl #[.agg #[.string ag,.string ai,.slice dr ay.length dg,.slice cI bc.length cJ]] rfl zY0 ?_;(with_reducible refine(ya5.calls k ag ai _ _ ay _ _ bc false _ ?side1 ?side2 ?side3 ?side4 ?side5 A2.out).mono ?_);(case side1=>exact zC (Kd.z0 fj.out HB.out));(case side2=>exact iv.out);(case side3=>exact zC (Kd.z0 ft.out HB.out));(case side4=>exact gv.out);(case side5=>exact zg);rintro e kB ⟨rfl,hb⟩;refine⟨_,rfl,?_⟩;replace bx:=zA (zq2 (zK bx.out) hb);replace HB:=zA (zq1 zB hb);clear hb)));go_ret;exact⟨zT,zB⟩
 replace H:=zM H;obtain⟨eE,A4,H⟩:=H;replace H:=zp H zkLtdlk;obtain⟨⟨c5b0,c5b1,c5b2,c5⟩,H⟩:=H;replace H:=zp H zkLtdlkk;obtain⟨⟨c6b0,c6b1,c6b2,c6b3,c6⟩,H⟩:=H;try simp only[ByteArray.size_append',sz1,sz2,sz3,sz4,sz5,sz6,sz7,sz8]at c6b3
 try have c6b4:=eq_true c6b3
 try have c6b5:=eq_false (Nat.not_lt.2 c6b3)
 have H':=zA H;clear H;go_enter Tryz.func23,Tryz.ntmps23;go_wp2_with (first|((with_reducible refine zq5 (N:=1) rfl ?_);refine zE (N:=1) (cs:=#[.string ag,.string ai,.slice dr ay.length dg,.slice cI bc.length cJ]) (t:=28) ?_;intro dq hg w7 hbox hb;have bx:=zA hbox;have jL:=zA (zS hg:w.heap.size≤dq);have jM:=zA (zS hg:w.heap.size≤dq);replace HB:=zA (zq1 zB hb);clear hb hbox hg;obtain⟨GD,GE,GF,GG⟩:=zc4 bx.out;obtain⟨GH,GI,GJ,GK⟩:=zf4 bx.out)|((with_reducible refine zq3 (f:=30) rfl ?_);refine zq7 (some 7) rfl rfl Tryz.func30 zY2 rfl #[.agg #[.string ag,.string ai,.slice dr ay.length dg,.slice cI bc.length cJ]] rfl zY0 ?_;(with_reducible refine(ya5.calls k ag ai _ _ ay _ _ bc true _ ?side1 ?side2 ?side3 ?side4 ?side5 A2.out).mono ?_);(case side1=>exact zC (Kd.z0 fj.out HB.out));(case side2=>exact iv.out);(case side3=>exact zC (Kd.z0 ft.out HB.out));(case side4=>exact gv.out);(case side5=>exact zg);rintro e w9 ⟨rfl,hb⟩;refine⟨_,rfl,?_⟩;replace bx:=zA (zq2 (zK bx.out) hb);replace HB:=zA (zq1 zB hb);clear hb;obtain⟨wF,wG,wH,wI⟩:=zc4 bx.out;obtain⟨wJ,wK,wL,wM⟩:=zf4 bx.out)|((with_reducible refine zq3 (f:=24) rfl ?_);refine zq7 (some 11) rfl rfl Tryz.func24 zY2 rfl #[.agg #[.string ag,.string ai]] rfl zY0 ?_;(with_reducible refine(yaM.calls ag ai eE _ A4.out).mono ?_);rintro e gK ⟨rfl,hb⟩;refine⟨_,rfl,?_⟩;replace bx:=zA (zq2 (zK bx.out) hb);replace HB:=zA (zq1 zB hb);clear hb;obtain⟨sC,sD,wN,wO⟩:=zc4 bx.out;obtain⟨wP,sE,wQ,wR⟩:=zf4 bx.out))
 go_loopg [3,17] k (fun kq v3 GL w'=>∃(au:ByteArray) (i8:Int),v3=.string au∧GL=.int .i64 i8∧Aside0 (yaI.l0 kq au ay (ay.length:Int) i8 ag ai ay bc=some r)∧Aside0 (kq≤k)∧Aside0 (w'.heap[dq]?=some (.cells #[.string ag,.string ai,(.slice dr ay.length dg),(.slice cI bc.length cJ)] 28 (0,0)))∧Aside0 (Below w.heap.size w w'))
 case atStart=>exact⟨((bz8++eE)++bz5),(0),zY4,zY4,H',⟨Nat.le_refl _⟩,⟨zK bx.out⟩,⟨zB⟩⟩
 case round =>
  clear H';(try clear c2);(try clear p2);(try clear c3);(try clear c5);(try clear c5b0);(try clear c5b1);(try clear c5b2);(try clear c6);(try clear c6b0);(try clear c6b1);(try clear c6b2);(try clear wF wG wH wI);(try clear sC sD wN wO);(try clear GD GE GF GG);(try clear wJ wK wL wM);(try clear wP sE wQ wR);(try clear GH GI GJ GK);obtain⟨au,i8,rfl,rfl,HA,HK1,bx,HB⟩:=hrel;cases gk with
  | zero=>exact absurd HA.out (by simp[yaI.l0])
  | succ k1 =>
   have H:=HA.out;clear HA;simp only[yaI.l0]at H;replace H:=zf H zkNd zkd;obtain⟨c13b0,H⟩|⟨c13b0,H⟩:=H
   ·replace H:=zp H zkLtdlk;obtain⟨⟨c24b0,c24b1,c24b2,Oz⟩,H⟩:=H;replace H:=zM H;obtain⟨i7,nu,H⟩:=H;replace H:=zp H zkLtdlkk;obtain⟨⟨c26b0,c26b1,c26b2,c26b3,Bd⟩,H⟩:=H;(try simp only[ByteArray.size_append',sz1,sz2,sz3,sz4,sz5,sz6,sz7,sz8]at c26b3);(try have c26b4:=eq_true c26b3);(try have c26b5:=eq_false (Nat.not_lt.2 c26b3));obtain rfl:=zs H;obtain⟨_,_,_,_⟩:=zc4 bx.out;obtain⟨_,_,_,_⟩:=zf4 bx.out;(go_wp2_with (first|((with_reducible refine zq3 (f:=55) rfl ?_);refine zq7 (some 32) rfl rfl Tryz.func55 zY2 rfl #[.slice cI bc.length cJ] rfl zY0 ?_;(with_reducible refine(ybh.calls _ _ bc i7 _ ?side1 ?side2 nu.out).mono ?_);(case side1=>exact zC (Kd.z0 ft.out HB.out));(case side2=>exact gv.out);rintro e eG ⟨rfl,hb⟩;refine⟨_,rfl,?_⟩;replace bx:=zA (zq2 (zK bx.out) hb);replace HB:=zA (zq1 zB hb);clear hb)));go_ret;exact⟨zT,zB⟩
   replace H:=zp H zkd;obtain⟨c14b0,H⟩:=H;replace H:=zp H zkd;obtain⟨c15b0,H⟩:=H;replace H:=zM H;obtain⟨ie,k5,H⟩:=H;replace H:=zp H zkLtdlk;obtain⟨⟨c17b0,c17b1,c17b2,nv⟩,H⟩:=H;replace H:=zp H zkLtdlkk;obtain⟨⟨c18b0,c18b1,c18b2,c18b3,sL⟩,H⟩:=H;(try simp only[ByteArray.size_append',sz1,sz2,sz3,sz4,sz5,sz6,sz7,sz8]at c18b3);(try have c18b4:=eq_true c18b3);(try have c18b5:=eq_false (Nat.not_lt.2 c18b3));replace H:=zp H zkLtdlkk;obtain⟨⟨c19b0,c19b1,c19b2,c19b3,Bl⟩,H⟩:=H;(try simp only[ByteArray.size_append',sz1,sz2,sz3,sz4,sz5,sz6,sz7,sz8]at c19b3);(try have c19b4:=eq_true c19b3);(try have c19b5:=eq_false (Nat.not_lt.2 c19b3));have H':=zA H;clear H;have eJ:0≤(i8:Int):=of_decide_eq_true zY1;have eK:i8<(ay.length:Int):=of_decide_eq_true zY1;obtain⟨jU,jV,gw,gW⟩:=at_T24 fj.out i8 eJ eK;cases jV;replace gw:=(HB.out.cell (World.block_lt_of_cell? w _ gw)).trans gw;replace gW:=(HB.out.cell (World.block_lt_of_cell? w _ gW)).trans gW;replace eJ:=eq_true eJ;replace eK:=eq_true eK;(go_wp2_with (first|((with_reducible refine zq5 (N:=5) rfl ?_);refine zE (N:=5) (cs:=#[.string bz0,.string bz0]) (t:=24) ?_;intro qB hg qA hbox hb;have sO:=zA hbox;have OA:=zA (zS hg:w.heap.size≤qB);have OB:=zA (zS hg:w.heap.size≤qB);replace HB:=zA (zq1 zB hb);have GM:=zA (zNlt hg (zK bx.out):dq≠qB);have GN:=zA (zNgt hg (zK bx.out):qB≠dq);replace bx:=zA (zq2 (zK bx.out) hb);clear hb hbox hg;have sP:=GN.out;have sQ:=GM.out;obtain⟨_,_⟩:=zc2 sO.out;obtain⟨_,_⟩:=zf2 sO.out)|((with_reducible refine zq3 (f:=24) rfl ?_);refine zq7 (some 23) rfl rfl Tryz.func24 zY2 rfl #[.agg #[.string ((zq14 ay i8).f0),.string ((zq14 ay i8).f1)]] rfl zY0 ?_;(with_reducible refine(yaM.calls ((zq14 ay i8).f0) ((zq14 ay i8).f1) ie _ k5.out).mono ?_);rintro e la ⟨rfl,hb⟩;refine⟨_,rfl,?_⟩;replace bx:=zA (zq2 (g:=dq) (o:=.cells #[.string ag,.string ai,.slice (some jU) ay.length dg,.slice cI bc.length cJ] 28 (0,0)) (zG bx.out) hb);replace sO:=zA (zq2 (g:=qB) (o:=.cells #[.string ((zq14 ay i8).f0),.string ((zq14 ay i8).f1)] 24 (0,0)) (zG sO.out) hb);replace HB:=zA (zq1 zB hb);clear hb)));go_roundg k1;(case measure=>have:=HK1.out;omega);case rel=>exact⟨(au++((bz9++ie)++bz5)),(wrap64 (i8+1)),zY4,zY4,H',⟨by have:=HK1.out;omega⟩,⟨zK bx.out⟩,⟨zB⟩⟩
end Go.Proofs.YtjdpdkdhfnpcgaaGreatDoor.Q
namespace Go.Proofs.YtjdpdkdhfnpcgaaGreatDoor.Q
open Go.RowKit Go.Proofs.YtjdpdkdhfnpcgaaGreatDoorW.PrintWords Go.Proofs.YtjdpdkdhfnpcgaaGreatDoorW.PrintLast Go.Proofs.YtjdpdkdhfnpcgaaGreatDoorW.PrintMore
set_option linter.unusedVariables false
set_option linter.unusedSimpArgs false
def ya4.f (a0 : Int) : Option ByteArray := if -9223372036854775808 ≤ a0 ∧ a0 ≤ 9223372036854775807 then some ⟨(Lib.itoa a0).toArray⟩else none
theorem ya4.calls (a0 : Int)(r : ByteArray)(w : World)(hG : GOK w)(h : ya4.f a0 = some r) :
    Calls Tryz.prog 22 #[.int .i64 a0] w fun e w' => e = .returned (.string r) ∧ Below w.heap.size w w' := by
  unfold ya4.f at h
  by_cases c : -9223372036854775808 ≤ a0 ∧ a0 ≤ 9223372036854775807
  · rw[if_pos c]at h
    obtain rfl := Option.some.inj h
    refine(Tryz.strconv_Itoa a0 c.1 c.2 w hG.2).mono ?_
    rintro e w' ⟨rfl, k, os, rfl⟩
    exact⟨rfl, Lib.below_grow _ w (Nat.le_refl _) k os⟩
  · rw[if_neg c]at h
    cases h
def yaT.f (a0 : ByteArray) : Option (Int × Bool) :=
  if a0.size ≤ 281474976710656 then
    (match Lib.atoiAll a0.data.toList with
    | .ok v => some (v, decide (0 ≤ v) && ((⟨(Lib.itoa v).toArray⟩ : ByteArray).toList == a0.toList))
    | .range => some (Lib.atoiSat a0.data.toList, false)
    | _ => some (0, false))
  else none
theorem num_below {w w1 : World}(h : w1 = w ∨ ∃ t, w1 = Lib.bytesWorld w 5 t) : Below w.heap.size w w1 := by
  rcases h with rfl | ⟨t, rfl⟩
  · exact Below.refl _ _
  · exact Lib.bytesWorld_below _ _ _
theorem yaT.calls (a0 : ByteArray)(r1 : Int)(r2 : Bool)(w : World)(hG : GOKE w)(h : yaT.f a0 = some (r1, r2)) :
    Calls Tryz.prog 34 #[.string a0] w fun e w' => e = .returned (.tuple #[.int .i64 r1, .bool r2]) ∧ Below w.heap.size w w' := by
  unfold yaT.f at h
  by_cases hs : a0.size ≤ 281474976710656
  · rw[if_pos hs]at h
    have HG := Aside0.mk hG
    clear hG
    cases ha : Lib.atoiAll a0.data.toList
    case ok v =>
      rw[ha]at h
      simp only[Option.some.injEq, Prod.mk.injEq]at h
      obtain⟨rfl, hr⟩ := h
      obtain⟨vb0, vb1⟩ := Lib.atoiAll_bounds ha
      have hA := Aside0.mk ((Tryz.strconv_Atoi_ok a0 (by omega) v ha w).mono (R' := fun e w' => e = .returned (.tuple #[.int .i64 v, .nilIface]) ∧ Below w.heap.size w w') (fun e w' h => ⟨h.1, num_below h.2⟩))
      clear ha hs
      by_cases hv : 0 ≤ v
      · have hvb : decide (0 ≤ v) = true := decide_eq_true hv
        rw[hvb, Bool.true_and]at hr
        have HR := Aside0.mk hr
        have HB := Aside0.mk (And.intro vb0 vb1)
        clear hr
        go_enter Tryz.func34, Tryz.ntmps34
        go_wp2_with (first
          | (go_at_call 71; refine hA.out.mono ?_; rintro e w1 ⟨rfl, hb1⟩; have HB1 := Aside0.mk hb1; clear hb1)
          | (go_at_call 22; refine(ya4.calls v _ _ (HG.out.weak.below HB1.out) (if_pos HB.out)).mono ?_; rintro e w2 ⟨rfl, hb2⟩; have HB2 := Aside0.mk (zq1 HB1.out hb2); clear hb2))
        go_ret2
        exact⟨by rw[← HR.out, show(⟨(Lib.itoa v).toArray⟩ : ByteArray).toList = Lib.itoa v from Lib.toList_data _]; rfl, HB2.out⟩
      · have hvb : decide (0 ≤ v) = false := decide_eq_false hv
        rw[hvb, Bool.false_and]at hr
        subst hr
        clear hv
        go_enter Tryz.func34, Tryz.ntmps34
        go_wp2_with (first
          | (go_at_call 71; refine hA.out.mono ?_; rintro e w1 ⟨rfl, hb1⟩; have HB1 := Aside0.mk hb1; clear hb1))
        go_ret2
        exact⟨rfl, HB1.out⟩
    case range =>
      rw[ha]at h
      simp only[Option.some.injEq, Prod.mk.injEq]at h
      obtain⟨rfl, rfl⟩ := h
      obtain⟨tp, p, hc⟩ := HG.out.2.2
      have hA := Aside0.mk ((Tryz.strconv_Atoi_range a0 hs ha _ w hc (Or.inr ⟨tp, p, rfl⟩)).mono (R' := fun e w' => ∃ N, e = .returned (.tuple #[.int .i64 (Lib.atoiSat a0.data.toList), .iface 165 (.pointer (some ⟨N, 0, none⟩))]) ∧ Below w.heap.size w w') (fun e w' ⟨N, h1, _, _, h2⟩ => ⟨N, h1, h2⟩))
      clear ha hs hc HG
      generalize Lib.atoiSat a0.data.toList = sat at *
      go_enter Tryz.func34, Tryz.ntmps34
      go_wp2_with (first
        | (go_at_call 71; refine hA.out.mono ?_; rintro e w1 ⟨N, rfl, hb1⟩; have HB1 := Aside0.mk hb1; clear hb1))
      go_ret2
      exact⟨rfl, HB1.out⟩
    · rw[ha]at h
      simp only[Option.some.injEq, Prod.mk.injEq]at h
      obtain⟨rfl, rfl⟩ := h
      obtain⟨tp, p, hc⟩ := HG.out.2.1
      have hA := Aside0.mk ((Tryz.strconv_Atoi_syntax a0 hs (by rw[ha]; exact True.intro) _ w hc (Or.inr ⟨tp, p, rfl⟩)).mono (R' := fun e w' => ∃ N, e = .returned (.tuple #[.int .i64 0, .iface 165 (.pointer (some ⟨N, 0, none⟩))]) ∧ Below w.heap.size w w') (fun e w' ⟨N, h1, _, _, h2⟩ => ⟨N, h1, h2⟩))
      clear ha hs hc HG
      go_enter Tryz.func34, Tryz.ntmps34
      go_wp2_with (first
        | (go_at_call 71; refine hA.out.mono ?_; rintro e w1 ⟨N, rfl, hb1⟩; have HB1 := Aside0.mk hb1; clear hb1))
      go_ret2
      exact⟨rfl, HB1.out⟩
  · rw[if_neg hs]at h
    cases h
end Go.Proofs.YtjdpdkdhfnpcgaaGreatDoor.Q
namespace Go.Proofs.YtjdpdkdhfnpcgaaGreatDoor.Q
open Go.RowKit Go.Proofs.YtjdpdkdhfnpcgaaGreatDoorW.PrintWords Go.Proofs.YtjdpdkdhfnpcgaaGreatDoorW.PrintLast Go.Proofs.YtjdpdkdhfnpcgaaGreatDoorW.PrintMore
attribute [local go_sem] max2_int min2_int max_two min_two max_three min_three max_four min_four
set_option linter.unusedVariables false
set_option linter.unusedSimpArgs false
def yay.f (k:Nat)(ag:Int)(ai:Int)(aM:ByteArray)(bf:ByteArray)(bj:Int)(bg:ByteArray)(bh:ByteArray)(aN:List (S24))(aQ:List ByteArray):Option (ByteArray):=(yam.f k ag ai aM bf bj bg bh aN aQ).bind fun gH=>(if gH=true then((ya4.f bj).bind fun dv=>(if ag=1 then(if 4+dv.size≤9223372036854775807 then(if((⟨#[97,100,100,32]⟩:ByteArray)++dv).size+1≤9223372036854775807 then((yaI.f k bg bh aN aQ).bind fun gV=>(if(((⟨#[97,100,100,32]⟩:ByteArray)++dv)++(⟨#[10]⟩:ByteArray)).size+gV.size≤9223372036854775807 then(some ((((⟨#[97,100,100,32]⟩:ByteArray)++dv)++(⟨#[10]⟩:ByteArray))++gV))else(none)))else(none))else(none))else((ya4.f ai).bind fun e7=>(if e7.size+1≤9223372036854775807 then((yaM.f aM bf).bind fun e8=>(if(e7++(⟨#[32]⟩:ByteArray)).size+e8.size≤9223372036854775807 then(if ag=2 then(if 5+((e7++(⟨#[32]⟩:ByteArray))++e8).size≤9223372036854775807 then(some ((⟨#[100,111,110,101,32]⟩:ByteArray)++((e7++(⟨#[32]⟩:ByteArray))++e8)))else(none))else(if 6+((e7++(⟨#[32]⟩:ByteArray))++e8).size≤9223372036854775807 then(if((⟨#[108,97,116,101,114,32]⟩:ByteArray)++((e7++(⟨#[32]⟩:ByteArray))++e8)).size+1≤9223372036854775807 then(if(((⟨#[108,97,116,101,114,32]⟩:ByteArray)++((e7++(⟨#[32]⟩:ByteArray))++e8))++(⟨#[32]⟩:ByteArray)).size+dv.size≤9223372036854775807 then(some ((((⟨#[108,97,116,101,114,32]⟩:ByteArray)++((e7++(⟨#[32]⟩:ByteArray))++e8))++(⟨#[32]⟩:ByteArray))++dv))else(none))else(none))else(none)))else(none)))else(none)))))else(some (⟨#[]⟩:ByteArray)))
def yay.T6:Bool × List (List Nat × List Nat):=(true,[([],[]),([0],[0]),([1],[1]),([2],[2]),([],[]),([4],[4]),([5,2],[5]),([3,6],[3,6]),([7,6,0,1,2,3,4,5,6,7],[7])])
def yay.B6:List Nat:=[0,1,3,7,0,16,55,127,255]
theorem yay.tab6:rtab .any (opsOf Tryz.f8 6)=yay.T6:=by kernel_rfl
theorem yay.bits6:waitsOk yay.T6.2 yay.B6=true:=by kernel_rfl
theorem yay.calls (k:Nat)(ag:Int)(ai:Int)(aM:ByteArray)(bf:ByteArray)(bj:Int)(bg:ByteArray)(bh:ByteArray)(cm:Option Addr)(cn:Nat)(aN:List (S24))(co:Option Addr)(cp:Nat)(aQ:List ByteArray)(r:ByteArray)(w:World)(fF:Kd.C k24 w cm aN.length aN)(fG:aN.length≤cn)(fH:Kd.C Kd.string w co aQ.length aQ)(fI:aQ.length≤cp)(hG:GOK w)(h:yay.f k ag ai aM bf bj bg bh aN aQ=some r) :
 Calls Tryz.prog 8 #[.agg #[.int .i64 ag,.int .i64 ai,.string aM,.string bf,.int .i64 bj,.string bg,.string bh,.slice cm aN.length cn,.slice co aQ.length cp]] w fun e w'=>e=.returned (.string r)∧Below w.heap.size w w':=by
 have hu30:=Tryz.underlying30;have hu28:=Tryz.underlying28;have hu24:=Tryz.underlying24;have eL:=zA fF;have eM:=zA fG;clear fF fG;have eN:=zA fH;have eO:=zA fI;clear fH fI;have HG:=zA hG;clear hG;have HB:=zA (Below.refl w.heap.size w);have H:=h;clear h;unfold yay.f at H;replace H:=zM H;obtain⟨gH,A2,H⟩:=H;replace H:=zb H;obtain⟨rfl,H⟩|⟨rfl,H⟩:=H
 ·obtain rfl:=zs H;go_enter Tryz.func8,Tryz.ntmps8;(go_wp2_with (first|((with_reducible refine zq5 (N:=1) rfl ?_);refine zE (N:=1) (cs:=#[.int .i64 ag,.int .i64 ai,.string aM,.string bf,.int .i64 bj,.string bg,.string bh,.slice cm aN.length cn,.slice co aQ.length cp]) (t:=30) ?_;intro eh hg mb hbox hb;have ba:=zA hbox;have xg:=zA (zS hg:w.heap.size≤eh);have xh:=zA (zS hg:w.heap.size≤eh);replace HB:=zA (zq1 zB hb);clear hb hbox hg;obtain⟨_,_,_,_,_,_,_,_,_⟩:=zc9 ba.out;obtain⟨_,_,_,_,_,_,_,_,_⟩:=zf9 ba.out)|((with_reducible refine zq3 (f:=10) rfl ?_);refine zq7 (some 6) rfl rfl Tryz.func10 zY2 rfl #[.agg #[.int .i64 ag,.int .i64 ai,.string aM,.string bf,.int .i64 bj,.string bg,.string bh,.slice cm aN.length cn,.slice co aQ.length cp]] rfl zY0 ?_;(with_reducible refine(yam.calls k ag ai aM bf bj bg bh _ _ aN _ _ aQ false _ ?side1 ?side2 ?side3 ?side4 ?side5 A2.out).mono ?_);(case side1=>exact zC (Kd.z0 eL.out HB.out));(case side2=>exact eM.out);(case side3=>exact zC (Kd.z0 eN.out HB.out));(case side4=>exact eO.out);(case side5=>exact zg);rintro e kA ⟨rfl,hb⟩;refine⟨_,rfl,?_⟩;replace ba:=zA (zq2 (zK ba.out) hb);replace HB:=zA (zq1 zB hb);clear hb)));go_ret;exact⟨zT,zB⟩
 replace H:=zM H;obtain⟨dv,A4,H⟩:=H;replace H:=zh H zkQqn zkQNqnk;obtain⟨⟨c5b0,c5b1⟩,H⟩|⟨⟨c5b0,c5b1,c5⟩,H⟩:=H
 ·replace H:=zp H zkLtdlk;obtain⟨⟨c6b0,c6b1,c6b2,c6⟩,H⟩:=H;replace H:=zp H zkLtdlkk;obtain⟨⟨c7b0,c7b1,c7b2,c7b3,c7⟩,H⟩:=H;(try simp only[ByteArray.size_append',sz1,sz2,sz3,sz4,sz5,sz6,sz7,sz8]at c7b3);(try have c7b4:=eq_true c7b3);(try have c7b5:=eq_false (Nat.not_lt.2 c7b3));replace H:=zM H;obtain⟨gV,A8,H⟩:=H;replace H:=zp H zkLtdlkk;obtain⟨⟨c9b0,c9b1,c9b2,c9b3,c9⟩,H⟩:=H;(try simp only[ByteArray.size_append',sz1,sz2,sz3,sz4,sz5,sz6,sz7,sz8]at c9b3);(try have c9b4:=eq_true c9b3);(try have c9b5:=eq_false (Nat.not_lt.2 c9b3));obtain rfl:=zs H;go_enter Tryz.func8,Tryz.ntmps8;(go_wp2_with (first|((with_reducible refine zq5 (N:=1) rfl ?_);refine zE (N:=1) (cs:=#[.int .i64 ag,.int .i64 ai,.string aM,.string bf,.int .i64 bj,.string bg,.string bh,.slice cm aN.length cn,.slice co aQ.length cp]) (t:=30) ?_;intro eh hg et hbox hb;have ba:=zA hbox;have xg:=zA (zS hg:w.heap.size≤eh);have xh:=zA (zS hg:w.heap.size≤eh);replace HB:=zA (zq1 zB hb);clear hb hbox hg;obtain⟨_,_,_,_,_,_,_,_,_⟩:=zc9 ba.out;obtain⟨_,_,_,_,_,_,_,_,_⟩:=zf9 ba.out)|((with_reducible refine zq3 (f:=10) rfl ?_);refine zq7 (some 6) rfl rfl Tryz.func10 zY2 rfl #[.agg #[.int .i64 ag,.int .i64 ai,.string aM,.string bf,.int .i64 bj,.string bg,.string bh,.slice cm aN.length cn,.slice co aQ.length cp]] rfl zY0 ?_;(with_reducible refine(yam.calls k ag ai aM bf bj bg bh _ _ aN _ _ aQ true _ ?side1 ?side2 ?side3 ?side4 ?side5 A2.out).mono ?_);(case side1=>exact zC (Kd.z0 eL.out HB.out));(case side2=>exact eM.out);(case side3=>exact zC (Kd.z0 eN.out HB.out));(case side4=>exact eO.out);(case side5=>exact zg);rintro e ew ⟨rfl,hb⟩;refine⟨_,rfl,?_⟩;replace ba:=zA (zq2 (zK ba.out) hb);replace HB:=zA (zq1 zB hb);clear hb;obtain⟨_,_,_,_,_,_,_,_,_⟩:=zc9 ba.out;obtain⟨_,_,_,_,_,_,_,_,_⟩:=zf9 ba.out)|((with_reducible refine zq3 (f:=22) rfl ?_);refine zq7 (some 10) rfl rfl Tryz.func22 zY2 rfl #[.int .i64 bj] rfl zY0 ?_;(with_reducible refine(ya4.calls bj dv _ ?side1 A4.out).mono ?_);(case side1=>exact zg);rintro e eD ⟨rfl,hb⟩;refine⟨_,rfl,?_⟩;replace ba:=zA (zq2 (zK ba.out) hb);replace HB:=zA (zq1 zB hb);clear hb;obtain⟨_,_,_,_,_,_,_,_,_⟩:=zc9 ba.out;obtain⟨_,_,_,_,_,_,_,_,_⟩:=zf9 ba.out)|((with_reducible refine zq3 (f:=23) rfl ?_);refine zq7 (some 19) rfl rfl Tryz.func23 zY2 rfl #[.agg #[.string bg,.string bh,.slice cm aN.length cn,.slice co aQ.length cp]] rfl zY0 ?_;(with_reducible refine(yaI.calls k bg bh _ _ aN _ _ aQ gV _ ?side1 ?side2 ?side3 ?side4 ?side5 A8.out).mono ?_);(case side1=>exact zC (Kd.z0 eL.out HB.out));(case side2=>exact eM.out);(case side3=>exact zC (Kd.z0 eN.out HB.out));(case side4=>exact eO.out);(case side5=>exact zg);rintro e o3 ⟨rfl,hb⟩;refine⟨_,rfl,?_⟩;replace ba:=zA (zq2 (zK ba.out) hb);replace HB:=zA (zq1 zB hb);clear hb)));go_ret;exact⟨zT,zB⟩
 replace H:=zM H;obtain⟨e7,gL,H⟩:=H;replace H:=zp H zkLtdlk;obtain⟨⟨c18b0,c18b1,c18b2,sL⟩,H⟩:=H;replace H:=zM H;obtain⟨e8,eg,H⟩:=H;replace H:=zp H zkLtdlkk;obtain⟨⟨c20b0,c20b1,c20b2,c20b3,nw⟩,H⟩:=H;try simp only[ByteArray.size_append',sz1,sz2,sz3,sz4,sz5,sz6,sz7,sz8]at c20b3
 try have c20b4:=eq_true c20b3
 try have c20b5:=eq_false (Nat.not_lt.2 c20b3)
 replace H:=zh H zkQqn zkQNqnk;obtain⟨⟨c21b0,c21b1⟩,H⟩|⟨⟨c21b0,c21b1,gZ⟩,H⟩:=H
 ·replace H:=zp H zkLtdlkk;obtain⟨⟨c22b0,c22b1,c22b2,c22b3,pd⟩,H⟩:=H;(try simp only[ByteArray.size_append',sz1,sz2,sz3,sz4,sz5,sz6,sz7,sz8]at c22b3);(try have c22b4:=eq_true c22b3);(try have c22b5:=eq_false (Nat.not_lt.2 c22b3));obtain rfl:=zs H;go_enter Tryz.func8,Tryz.ntmps8;(try go_wp2_with (first|((with_reducible refine zq5 (N:=1) rfl ?_);refine zE (N:=1) (cs:=#[.int .i64 ag,.int .i64 ai,.string aM,.string bf,.int .i64 bj,.string bg,.string bh,.slice cm aN.length cn,.slice co aQ.length cp]) (t:=30) ?_;intro eh hg la hbox hb;have ba:=zA hbox;have xg:=zA (zS hg:w.heap.size≤eh);have xh:=zA (zS hg:w.heap.size≤eh);replace HB:=zA (zq1 zB hb);clear hb hbox hg;obtain⟨_,_,_,_,_,_,_,_,_⟩:=zc9 ba.out;obtain⟨_,_,_,_,_,_,_,_,_⟩:=zf9 ba.out)|((with_reducible refine zq3 (f:=10) rfl ?_);refine zq7 (some 6) rfl rfl Tryz.func10 zY2 rfl #[.agg #[.int .i64 ag,.int .i64 ai,.string aM,.string bf,.int .i64 bj,.string bg,.string bh,.slice cm aN.length cn,.slice co aQ.length cp]] rfl zY0 ?_;(with_reducible refine(yam.calls k ag ai aM bf bj bg bh _ _ aN _ _ aQ true _ ?side1 ?side2 ?side3 ?side4 ?side5 A2.out).mono ?_);(case side1=>exact zC (Kd.z0 eL.out HB.out));(case side2=>exact eM.out);(case side3=>exact zC (Kd.z0 eN.out HB.out));(case side4=>exact eO.out);(case side5=>exact zg);rintro e kz ⟨rfl,hb⟩;refine⟨_,rfl,?_⟩;replace ba:=zA (zq2 (zK ba.out) hb);replace HB:=zA (zq1 zB hb);clear hb;obtain⟨_,_,_,_,_,_,_,_,_⟩:=zc9 ba.out;obtain⟨_,_,_,_,_,_,_,_,_⟩:=zf9 ba.out)|((with_reducible refine zq3 (f:=22) rfl ?_);refine zq7 (some 10) rfl rfl Tryz.func22 zY2 rfl #[.int .i64 bj] rfl zY0 ?_;(with_reducible refine(ya4.calls bj dv _ ?side1 A4.out).mono ?_);(case side1=>exact zg);rintro e fv ⟨rfl,hb⟩;refine⟨_,rfl,?_⟩;replace ba:=zA (zq2 (zK ba.out) hb);replace HB:=zA (zq1 zB hb);clear hb;obtain⟨_,_,_,_,_,_,_,_,_⟩:=zc9 ba.out;obtain⟨_,_,_,_,_,_,_,_,_⟩:=zf9 ba.out)));replace ba:=zA (blk_drew ba.out);replace HB:=zA (zq19 HB.out);refine start_ (n:=9) (S:=fun w'=>w'.cell? ⟨eh,0,none⟩=some (.int .i64 ag)∧w'.cell? ⟨eh,1,none⟩=some (.int .i64 ai)∧w'.cell? ⟨eh,2,none⟩=some (.string aM)∧w'.cell? ⟨eh,3,none⟩=some (.string bf)∧w'.cell? ⟨eh,4,none⟩=some (.int .i64 bj)∧w'.cell? ⟨eh,5,none⟩=some (.string bg)∧w'.cell? ⟨eh,6,none⟩=some (.string bh)∧w'.cell? ⟨eh,7,none⟩=some (.slice cm aN.length cn)∧w'.cell? ⟨eh,8,none⟩=some (.slice co aQ.length cp)) (ds:=[]) #[false,false,false,false,false,false,false,false,false] zY2 rfl rfl ⟨zq0 ba.out 0,zq0 ba.out 1,zq0 ba.out 2,zq0 ba.out 3,zq0 ba.out 4,zq0 ba.out 5,zq0 ba.out 6,zq0 ba.out 7,zq0 ba.out 8⟩ (fun hHeld=>?_);refine with_tabW yay.tab6 yay.bits6 (fun HT_ HW_=>?_);generalize fv.drew=me at ba HB hHeld ⊢;refine pure_ (i:=0) (N:=some 21) (v:=?_) (a':=?_) #[true,false,false,false,false,false,false,false,false] rfl rfl (zq10 HT_.out zY2) (fun _ _ _ h=>h) (Or.inl ⟨by rfl,?_⟩) ?_ ?_;rotate_left
  ·intro w';go_simp;with_reducible rfl
  rotate_left
  ·simp only[Act.put,zL0,zL1,zL2,i64_w,i32_w];rfl
  refine pure_ (i:=4) (N:=some 25) (v:=?_) (a':=?_) #[true,false,false,false,true,false,false,false,false] rfl rfl (zq10 HT_.out zY2) (fun _ _ _ h=>h) (Or.inl ⟨by rfl,?_⟩) ?_ ?_;rotate_left
  ·intro w';go_simp;with_reducible rfl
  rotate_left
  ·simp only[Act.put,zL0,zL1,zL2,i64_w,i32_w];rfl
  refine take_ (i:=1) (N:=some 22) (v:=?_) (a':=?_) #[true,true,false,false,true,false,false,false,false] rfl rfl (take_ofW HT_.out HW_.out zY2) (fun _ _ _ h=>h) (Or.inl ⟨by rfl,?_⟩) hHeld ?_ ?_;rotate_left
  ·rintro w' ⟨s0,s1,s2,s3,s4,s5,s6,s7,s8⟩;go_simp;with_reducible rfl
  rotate_left
  ·simp only[Act.put,zL0,zL1,zL2,i64_w,i32_w];rfl
  refine take_ (i:=5) (N:=some 26) (v:=?_) (a':=?_) #[true,true,false,false,true,true,false,false,false] rfl rfl (take_ofW HT_.out HW_.out zY2) (fun _ _ _ h=>h) (Or.inl ⟨by rfl,?_⟩) hHeld ?_ ?_;rotate_left
  ·rintro w' ⟨s0,s1,s2,s3,s4,s5,s6,s7,s8⟩;go_simp;with_reducible rfl
  rotate_left
  ·simp only[Act.put,zL0,zL1,zL2,i64_w,i32_w];rfl
  refine one_ (i:=2) (N:=some 23) #[true,true,true,false,true,true,false,false,false] rfl rfl (one_of HT_.out zY2) zY3 (fun K hK=>?_);refine goes_ Tryz.func22 zY2 rfl #[.int .i64 ai] zY15 rfl rfl zY0 ?_;(with_reducible refine(ya4.calls ai e7 _ ?side1 gL.out).mono ?_);(case side1=>exact zg);rintro e o0 ⟨rfl,hb⟩;refine⟨_,rfl,?_⟩;replace ba:=zA (zq2 (zK ba.out) hb);replace HB:=zA (zq1 zB hb);(try clear hb);refine hK.out _ _ ⟨zq0 ba.out 0,zq0 ba.out 1,zq0 ba.out 2,zq0 ba.out 3,zq0 ba.out 4,zq0 ba.out 5,zq0 ba.out 6,zq0 ba.out 7,zq0 ba.out 8⟩ (fun hHeld=>?_);clear hK K;refine norm_ (a':=?_) ?_ ?_;rotate_left
  ·show Act.put _ (some 23) _=_;simp only[Act.put,zL0,zL1,zL2,i64_w,i32_w];rfl
  refine pure_ (i:=3) (N:=some 24) (v:=?_) (a':=?_) #[true,true,true,true,true,true,false,false,false] rfl rfl (zq10 HT_.out zY2) (fun _ _ _ h=>h) (Or.inl ⟨by rfl,?_⟩) ?_ ?_;rotate_left
  ·intro w';go_simp;with_reducible rfl
  rotate_left
  ·simp only[Act.put,zL0,zL1,zL2,i64_w,i32_w];rfl
  refine one_ (i:=6) (N:=some 27) #[true,true,true,true,true,true,true,false,false] rfl rfl (one_of HT_.out zY2) zY3 (fun K hK=>?_);refine goes_ Tryz.func24 zY2 rfl #[.agg #[.string aM,.string bf]] zY15 rfl rfl zY0 ?_;(with_reducible refine(yaM.calls aM bf e8 _ eg.out).mono ?_);rintro e kB ⟨rfl,hb⟩;refine⟨_,rfl,?_⟩;replace ba:=zA (zq2 (zK ba.out) hb);replace HB:=zA (zq1 zB hb);(try clear hb);refine hK.out _ _ ⟨zq0 ba.out 0,zq0 ba.out 1,zq0 ba.out 2,zq0 ba.out 3,zq0 ba.out 4,zq0 ba.out 5,zq0 ba.out 6,zq0 ba.out 7,zq0 ba.out 8⟩ (fun hHeld=>?_);clear hK K;refine norm_ (a':=?_) ?_ ?_;rotate_left
  ·show Act.put _ (some 27) _=_;simp only[Act.put,zL0,zL1,zL2,i64_w,i32_w];rfl
  refine pure_ (i:=7) (N:=some 28) (v:=?_) (a':=?_) #[true,true,true,true,true,true,true,true,false] rfl rfl (zq10 HT_.out zY2) (fun _ _ _ h=>h) (Or.inl ⟨by rfl,?_⟩) ?_ ?_;rotate_left
  ·intro w';go_simp;with_reducible rfl
  rotate_left
  ·simp only[Act.put,zL0,zL1,zL2,i64_w,i32_w];rfl
  refine pure_ (i:=8) (N:=some 4) (v:=?_) (a':=?_) #[true,true,true,true,true,true,true,true,true] rfl rfl (zq10 HT_.out zY2) (fun _ _ _ h=>h) (Or.inl ⟨by rfl,?_⟩) ?_ ?_;rotate_left
  ·intro w';go_simp;with_reducible rfl
  rotate_left
  ·simp only[Act.put,zL0,zL1,zL2,i64_w,i32_w];rfl
  refine done_ (done_of HT_.out zY2) ?_;obtain⟨_,_,_,_,_,_,_,_,_⟩:=zc9 ba.out;obtain⟨_,_,_,_,_,_,_,_,_⟩:=zf9 ba.out;(try go_wp2);go_ret;exact⟨zT,zB⟩
 replace H:=zp H zkLtdlkk;obtain⟨⟨c33b0,c33b1,c33b2,c33b3,GO⟩,H⟩:=H;try simp only[ByteArray.size_append',sz1,sz2,sz3,sz4,sz5,sz6,sz7,sz8]at c33b3
 try have c33b4:=eq_true c33b3
 try have c33b5:=eq_false (Nat.not_lt.2 c33b3)
 replace H:=zp H zkLtdlkk;obtain⟨⟨c34b0,c34b1,c34b2,c34b3,AY⟩,H⟩:=H;try simp only[ByteArray.size_append',sz1,sz2,sz3,sz4,sz5,sz6,sz7,sz8]at c34b3
 try have c34b4:=eq_true c34b3
 try have c34b5:=eq_false (Nat.not_lt.2 c34b3)
 replace H:=zp H zkLtdlkk;obtain⟨⟨c35b0,c35b1,c35b2,c35b3,Bi⟩,H⟩:=H;try simp only[ByteArray.size_append',sz1,sz2,sz3,sz4,sz5,sz6,sz7,sz8]at c35b3
 try have c35b4:=eq_true c35b3
 try have c35b5:=eq_false (Nat.not_lt.2 c35b3)
 obtain rfl:=zs H;go_enter Tryz.func8,Tryz.ntmps8;try go_wp2_with (first|((with_reducible refine zq5 (N:=1) rfl ?_);refine zE (N:=1) (cs:=#[.int .i64 ag,.int .i64 ai,.string aM,.string bf,.int .i64 bj,.string bg,.string bh,.slice cm aN.length cn,.slice co aQ.length cp]) (t:=30) ?_;intro eh hg ql hbox hb;have ba:=zA hbox;have xg:=zA (zS hg:w.heap.size≤eh);have xh:=zA (zS hg:w.heap.size≤eh);replace HB:=zA (zq1 zB hb);clear hb hbox hg;obtain⟨_,_,_,_,_,_,_,_,_⟩:=zc9 ba.out;obtain⟨_,_,_,_,_,_,_,_,_⟩:=zf9 ba.out)|((with_reducible refine zq3 (f:=10) rfl ?_);refine zq7 (some 6) rfl rfl Tryz.func10 zY2 rfl #[.agg #[.int .i64 ag,.int .i64 ai,.string aM,.string bf,.int .i64 bj,.string bg,.string bh,.slice cm aN.length cn,.slice co aQ.length cp]] rfl zY0 ?_;(with_reducible refine(yam.calls k ag ai aM bf bj bg bh _ _ aN _ _ aQ true _ ?side1 ?side2 ?side3 ?side4 ?side5 A2.out).mono ?_);(case side1=>exact zC (Kd.z0 eL.out HB.out));(case side2=>exact eM.out);(case side3=>exact zC (Kd.z0 eN.out HB.out));(case side4=>exact eO.out);(case side5=>exact zg);rintro e k9 ⟨rfl,hb⟩;refine⟨_,rfl,?_⟩;replace ba:=zA (zq2 (zK ba.out) hb);replace HB:=zA (zq1 zB hb);clear hb;obtain⟨_,_,_,_,_,_,_,_,_⟩:=zc9 ba.out;obtain⟨_,_,_,_,_,_,_,_,_⟩:=zf9 ba.out)|((with_reducible refine zq3 (f:=22) rfl ?_);refine zq7 (some 10) rfl rfl Tryz.func22 zY2 rfl #[.int .i64 bj] rfl zY0 ?_;(with_reducible refine(ya4.calls bj dv _ ?side1 A4.out).mono ?_);(case side1=>exact zg);rintro e Bm ⟨rfl,hb⟩;refine⟨_,rfl,?_⟩;replace ba:=zA (zq2 (zK ba.out) hb);replace HB:=zA (zq1 zB hb);clear hb;obtain⟨_,_,_,_,_,_,_,_,_⟩:=zc9 ba.out;obtain⟨_,_,_,_,_,_,_,_,_⟩:=zf9 ba.out))
 replace ba:=zA (blk_drew ba.out);replace HB:=zA (zq19 HB.out);refine start_ (n:=9) (S:=fun w'=>w'.cell? ⟨eh,0,none⟩=some (.int .i64 ag)∧w'.cell? ⟨eh,1,none⟩=some (.int .i64 ai)∧w'.cell? ⟨eh,2,none⟩=some (.string aM)∧w'.cell? ⟨eh,3,none⟩=some (.string bf)∧w'.cell? ⟨eh,4,none⟩=some (.int .i64 bj)∧w'.cell? ⟨eh,5,none⟩=some (.string bg)∧w'.cell? ⟨eh,6,none⟩=some (.string bh)∧w'.cell? ⟨eh,7,none⟩=some (.slice cm aN.length cn)∧w'.cell? ⟨eh,8,none⟩=some (.slice co aQ.length cp)) (ds:=[]) #[false,false,false,false,false,false,false,false,false] zY2 rfl rfl ⟨zq0 ba.out 0,zq0 ba.out 1,zq0 ba.out 2,zq0 ba.out 3,zq0 ba.out 4,zq0 ba.out 5,zq0 ba.out 6,zq0 ba.out 7,zq0 ba.out 8⟩ (fun hHeld=>?_);refine with_tabW yay.tab6 yay.bits6 (fun HT_ HW_=>?_);generalize Bm.drew=OC at ba HB hHeld ⊢;refine pure_ (i:=0) (N:=some 21) (v:=?_) (a':=?_) #[true,false,false,false,false,false,false,false,false] rfl rfl (zq10 HT_.out zY2) (fun _ _ _ h=>h) (Or.inl ⟨by rfl,?_⟩) ?_ ?_;rotate_left
 ·intro w';go_simp;with_reducible rfl
 rotate_left
 ·simp only[Act.put,zL0,zL1,zL2,i64_w,i32_w];rfl
 refine pure_ (i:=4) (N:=some 25) (v:=?_) (a':=?_) #[true,false,false,false,true,false,false,false,false] rfl rfl (zq10 HT_.out zY2) (fun _ _ _ h=>h) (Or.inl ⟨by rfl,?_⟩) ?_ ?_;rotate_left
 ·intro w';go_simp;with_reducible rfl
 rotate_left
 ·simp only[Act.put,zL0,zL1,zL2,i64_w,i32_w];rfl
 refine take_ (i:=1) (N:=some 22) (v:=?_) (a':=?_) #[true,true,false,false,true,false,false,false,false] rfl rfl (take_ofW HT_.out HW_.out zY2) (fun _ _ _ h=>h) (Or.inl ⟨by rfl,?_⟩) hHeld ?_ ?_;rotate_left
 ·rintro w' ⟨s0,s1,s2,s3,s4,s5,s6,s7,s8⟩;go_simp;with_reducible rfl
 rotate_left
 ·simp only[Act.put,zL0,zL1,zL2,i64_w,i32_w];rfl
 refine take_ (i:=5) (N:=some 26) (v:=?_) (a':=?_) #[true,true,false,false,true,true,false,false,false] rfl rfl (take_ofW HT_.out HW_.out zY2) (fun _ _ _ h=>h) (Or.inl ⟨by rfl,?_⟩) hHeld ?_ ?_;rotate_left
 ·rintro w' ⟨s0,s1,s2,s3,s4,s5,s6,s7,s8⟩;go_simp;with_reducible rfl
 rotate_left
 ·simp only[Act.put,zL0,zL1,zL2,i64_w,i32_w];rfl
 refine one_ (i:=2) (N:=some 23) #[true,true,true,false,true,true,false,false,false] rfl rfl (one_of HT_.out zY2) zY3 (fun K hK=>?_);refine goes_ Tryz.func22 zY2 rfl #[.int .i64 ai] zY15 rfl rfl zY0 ?_;with_reducible refine(ya4.calls ai e7 _ ?side1 gL.out).mono ?_
 (case side1=>exact zg);rintro e na ⟨rfl,hb⟩;refine⟨_,rfl,?_⟩;replace ba:=zA (zq2 (zK ba.out) hb);replace HB:=zA (zq1 zB hb);(try clear hb);refine hK.out _ _ ⟨zq0 ba.out 0,zq0 ba.out 1,zq0 ba.out 2,zq0 ba.out 3,zq0 ba.out 4,zq0 ba.out 5,zq0 ba.out 6,zq0 ba.out 7,zq0 ba.out 8⟩ (fun hHeld=>?_);clear hK K;refine norm_ (a':=?_) ?_ ?_;rotate_left
 ·show Act.put _ (some 23) _=_;simp only[Act.put,zL0,zL1,zL2,i64_w,i32_w];rfl
 refine pure_ (i:=3) (N:=some 24) (v:=?_) (a':=?_) #[true,true,true,true,true,true,false,false,false] rfl rfl (zq10 HT_.out zY2) (fun _ _ _ h=>h) (Or.inl ⟨by rfl,?_⟩) ?_ ?_;rotate_left
 ·intro w';go_simp;with_reducible rfl
 rotate_left
 ·simp only[Act.put,zL0,zL1,zL2,i64_w,i32_w];rfl
 refine one_ (i:=6) (N:=some 27) #[true,true,true,true,true,true,true,false,false] rfl rfl (one_of HT_.out zY2) zY3 (fun K hK=>?_);refine goes_ Tryz.func24 zY2 rfl #[.agg #[.string aM,.string bf]] zY15 rfl rfl zY0 ?_;with_reducible refine(yaM.calls aM bf e8 _ eg.out).mono ?_
 rintro e o1 ⟨rfl,hb⟩;refine⟨_,rfl,?_⟩;replace ba:=zA (zq2 (zK ba.out) hb);replace HB:=zA (zq1 zB hb);(try clear hb);refine hK.out _ _ ⟨zq0 ba.out 0,zq0 ba.out 1,zq0 ba.out 2,zq0 ba.out 3,zq0 ba.out 4,zq0 ba.out 5,zq0 ba.out 6,zq0 ba.out 7,zq0 ba.out 8⟩ (fun hHeld=>?_);clear hK K;refine norm_ (a':=?_) ?_ ?_;rotate_left
 ·show Act.put _ (some 27) _=_;simp only[Act.put,zL0,zL1,zL2,i64_w,i32_w];rfl
 refine pure_ (i:=7) (N:=some 28) (v:=?_) (a':=?_) #[true,true,true,true,true,true,true,true,false] rfl rfl (zq10 HT_.out zY2) (fun _ _ _ h=>h) (Or.inl ⟨by rfl,?_⟩) ?_ ?_;rotate_left
 ·intro w';go_simp;with_reducible rfl
 rotate_left
 ·simp only[Act.put,zL0,zL1,zL2,i64_w,i32_w];rfl
 refine pure_ (i:=8) (N:=some 4) (v:=?_) (a':=?_) #[true,true,true,true,true,true,true,true,true] rfl rfl (zq10 HT_.out zY2) (fun _ _ _ h=>h) (Or.inl ⟨by rfl,?_⟩) ?_ ?_;rotate_left
 ·intro w';go_simp;with_reducible rfl
 rotate_left
 ·simp only[Act.put,zL0,zL1,zL2,i64_w,i32_w];rfl
 refine done_ (done_of HT_.out zY2) ?_;obtain⟨_,_,_,_,_,_,_,_,_⟩:=zc9 ba.out;obtain⟨_,_,_,_,_,_,_,_,_⟩:=zf9 ba.out;try go_wp2
 go_ret;exact⟨zT,zB⟩
def yaY.j0:Nat→ByteArray→Bool→Option (ByteArray × ByteArray × Bool)
 | 0,_,_=>none
 | k+1,x0,xi=>if xi=true then(some ((⟨#[]⟩:ByteArray),(⟨#[]⟩:ByteArray),false))else(if 1≤(wrap64 ((x0.size:Int) - 1))then(if(wrap64 ((x0.size:Int) - 1))≤(x0.size:Int)then((yap.f k (x0.extract 1 ((wrap64 ((x0.size:Int) - 1)):Int).toNat) 64 2).bind fun d9=>(if(d9.length:Int)=2 then(if 0<(d9.length:Int)then(if 1<(d9.length:Int)then((yae.f k (rdOf ByteArray.empty d9 0) (rdOf ByteArray.empty d9 1)).bind fun gM=>(if gM=true then(some (rdOf ByteArray.empty d9 0,rdOf ByteArray.empty d9 1,true))else(some ((⟨#[]⟩:ByteArray),(⟨#[]⟩:ByteArray),false))))else(none))else(none))else(some ((⟨#[]⟩:ByteArray),(⟨#[]⟩:ByteArray),false))))else(none))else(none))
def yaY.f (k:Nat)(a0:ByteArray):Option (ByteArray × ByteArray × Bool):=if a0.toList=([60,62]:List UInt8)then(some ((⟨#[]⟩:ByteArray),(⟨#[]⟩:ByteArray),true))else(if(a0.size:Int)<2 then(yaY.j0 k a0 true)else(if 0<(a0.size:Int)then(if(bt a0 0)=60 then(if 0≤(wrap64 ((a0.size:Int) - 1))then(if(wrap64 ((a0.size:Int) - 1))<(a0.size:Int)then(yaY.j0 k a0 ((bt a0 (wrap64 ((a0.size:Int) - 1))) != 62))else(none))else(none))else(yaY.j0 k a0 true))else(none)))
def stringslite_HasPrefix.f (a0:ByteArray)(a1:ByteArray):Option (Bool):=if(a0.size:Int)≥(a1.size:Int)then(if 0≤(a1.size:Int)then(if(a1.size:Int)≤(a0.size:Int)then(some ((a0.extract 0 ((a1.size:Int):Int).toNat).toList==a1.toList))else(none))else(none))else(some false)
theorem stringslite_HasPrefix.calls (a0:ByteArray)(a1:ByteArray)(r:Bool)(w:World)(h:stringslite_HasPrefix.f a0 a1=some r) :
 Calls Tryz.prog 138 #[.string a0,.string a1] w fun e w'=>e=.returned (.bool r)∧Drawn0 w w':=by
 have H:=h;clear h;unfold stringslite_HasPrefix.f at H;obtain⟨⟨c3b0,c3⟩,H⟩|⟨⟨c3b0,c3⟩,H⟩:=zf H zkENgk zkEgk
 ·have c3b1:decide (a1.size≤a0.size)=false:=decide_eq_false (fun h=>c3 (Int.ofNat_le.mpr h));clear c3;obtain rfl:=zs H;go_enter Tryz.func138,Tryz.ntmps138;go_wp2;go_ret;exact⟨by first|rfl|(simp;done)|(simp[*];done),by repeat(first|exact Drawn0.refl _|apply Drawn0.step)⟩
 have c3b1:decide (a1.size≤a0.size)=true:=decide_eq_true (Int.ofNat_le.mp c3);clear c3;obtain⟨⟨c4b0,c4b1⟩,H⟩:=zp H zktd;obtain⟨⟨c5b0,c5b1⟩,H⟩:=zp H zktd;obtain rfl:=zs H;go_enter Tryz.func138,Tryz.ntmps138;go_wp2;go_ret;exact⟨by first|rfl|(simp;done)|(simp[*];done),by repeat(first|exact Drawn0.refl _|apply Drawn0.step)⟩
def stringslite_CutPrefix.f (a0:ByteArray)(a1:ByteArray):Option (ByteArray × Bool):=(stringslite_HasPrefix.f a0 a1).bind fun gN=>(if gN=true then(if 0≤(a1.size:Int)then(if(a1.size:Int)≤(a0.size:Int)then(some (a0.extract ((a1.size:Int):Int).toNat a0.size,true))else(none))else(none))else(some (a0,false)))
theorem stringslite_CutPrefix.calls (a0:ByteArray)(a1:ByteArray)(r1:ByteArray)(r2:Bool)(w:World)(h:stringslite_CutPrefix.f a0 a1=some (r1,r2)) :
 Calls Tryz.prog 125 #[.string a0,.string a1] w fun e w'=>e=.returned (.tuple #[.string r1,.bool r2])∧Drawn0 w w':=by
 have H:=h;clear h;unfold stringslite_CutPrefix.f at H;replace H:=zM H;obtain⟨gN,A3,H⟩:=H;replace H:=zb H;obtain⟨rfl,H⟩|⟨rfl,H⟩:=H
 ·obtain⟨rfl,rfl⟩:=zs2 H;go_enter Tryz.func125,Tryz.ntmps125;(go_wp2_with (first|((with_reducible refine zq3 (f:=138) rfl ?_);refine zq7 (some 8) rfl rfl Tryz.func138 zY2 rfl #[.string a0,.string a1] rfl zY0 ?_;(with_reducible refine(stringslite_HasPrefix.calls a0 a1 false _ A3.out).mono ?_);rintro e w' ⟨rfl,⟨nd,rfl⟩⟩;refine⟨_,rfl,?_⟩)));go_ret2;exact⟨by first|rfl|(simp;done)|(simp[*];done),by repeat(first|exact Drawn0.refl _|apply Drawn0.step)⟩
 replace H:=zp H zktd;obtain⟨⟨c5b0,c5b1⟩,H⟩:=H;replace H:=zp H zktd;obtain⟨⟨c6b0,c6b1⟩,H⟩:=H;obtain⟨rfl,rfl⟩:=zs2 H;go_enter Tryz.func125,Tryz.ntmps125;go_wp2_with (first|((with_reducible refine zq3 (f:=138) rfl ?_);refine zq7 (some 8) rfl rfl Tryz.func138 zY2 rfl #[.string a0,.string a1] rfl zY0 ?_;(with_reducible refine(stringslite_HasPrefix.calls a0 a1 true _ A3.out).mono ?_);rintro e w' ⟨rfl,⟨nd,rfl⟩⟩;refine⟨_,rfl,?_⟩))
 go_ret2;exact⟨by first|rfl|(simp;done)|(simp[*];done),by repeat(first|exact Drawn0.refl _|apply Drawn0.step)⟩
def yaQ.f (a0:ByteArray)(a1:ByteArray):Option (ByteArray × Bool):=(stringslite_CutPrefix.f a0 a1).bind fun pf=>(some (pf.1,pf.2))
theorem yaQ.calls (a0:ByteArray)(a1:ByteArray)(r1:ByteArray)(r2:Bool)(w:World)(h:yaQ.f a0 a1=some (r1,r2)) :
 Calls Tryz.prog 74 #[.string a0,.string a1] w fun e w'=>e=.returned (.tuple #[.string r1,.bool r2])∧Drawn0 w w':=by
 have H:=h;clear h;unfold yaQ.f at H;obtain⟨⟨d9,fw⟩,A3,H⟩:=zM H;try dsimp only at H
 obtain⟨rfl,rfl⟩:=zs2 H;go_enter Tryz.func74,Tryz.ntmps74;go_wp2_with (first|((with_reducible refine zq3 (f:=125) rfl ?_);refine zq7 (some 8) rfl rfl Tryz.func125 zY2 rfl #[.string a0,.string a1] rfl zY0 ?_;(with_reducible refine(stringslite_CutPrefix.calls a0 a1 d9 fw _ A3.out).mono ?_);rintro e w' ⟨rfl,⟨nd,rfl⟩⟩;refine⟨_,rfl,?_⟩))
 go_ret2;exact⟨by first|rfl|(simp;done)|(simp[*];done),by repeat(first|exact Drawn0.refl _|apply Drawn0.step)⟩
def stringslite_HasSuffix.f (a0:ByteArray)(a1:ByteArray):Option (Bool):=if(a0.size:Int)≥(a1.size:Int)then(if 0≤(wrap64 ((a0.size:Int) - (a1.size:Int)))then(if(wrap64 ((a0.size:Int) - (a1.size:Int)))≤(a0.size:Int)then(some ((a0.extract ((wrap64 ((a0.size:Int) - (a1.size:Int))):Int).toNat a0.size).toList==a1.toList))else(none))else(none))else(some false)
theorem stringslite_HasSuffix.calls (a0:ByteArray)(a1:ByteArray)(r:Bool)(w:World)(h:stringslite_HasSuffix.f a0 a1=some r) :
 Calls Tryz.prog 163 #[.string a0,.string a1] w fun e w'=>e=.returned (.bool r)∧Drawn0 w w':=by
 have H:=h;clear h;unfold stringslite_HasSuffix.f at H;obtain⟨⟨c3b0,c3⟩,H⟩|⟨⟨c3b0,c3⟩,H⟩:=zf H zkENgk zkEgk
 ·have c3b1:decide (a1.size≤a0.size)=false:=decide_eq_false (fun h=>c3 (Int.ofNat_le.mpr h));clear c3;obtain rfl:=zs H;go_enter Tryz.func163,Tryz.ntmps163;go_wp2;go_ret;exact⟨by first|rfl|(simp;done)|(simp[*];done),by repeat(first|exact Drawn0.refl _|apply Drawn0.step)⟩
 have c3b1:decide (a1.size≤a0.size)=true:=decide_eq_true (Int.ofNat_le.mp c3);clear c3;obtain⟨GP,hji4⟩:∃ j_:Int,(wrap64 ((a0.size:Int) - (a1.size:Int)))=j_:=⟨_,rfl⟩;first|rw[hji4]at H|simp only[hji4]at H
 have hji4w:(IntKind.i64.wrap ((a0.size:Int) - (a1.size:Int)))=GP:=(i64_w _).trans hji4;obtain⟨⟨c5b0,c5b1⟩,H⟩:=zp H zktd;obtain⟨⟨c6b0,c6b1⟩,H⟩:=zp H zktd;obtain rfl:=zs H;go_enter Tryz.func163,Tryz.ntmps163;go_wp2;go_ret;exact⟨by first|rfl|(simp;done)|(simp only[← hji4]<;>(first|rfl|simp))|(simp[*];done),by repeat(first|exact Drawn0.refl _|apply Drawn0.step)⟩
def stringslite_TrimSuffix.f (a0:ByteArray)(a1:ByteArray):Option (ByteArray):=(stringslite_HasSuffix.f a0 a1).bind fun gN=>(if gN=true then(if 0≤(wrap64 ((a0.size:Int) - (a1.size:Int)))then(if(wrap64 ((a0.size:Int) - (a1.size:Int)))≤(a0.size:Int)then(some (a0.extract 0 ((wrap64 ((a0.size:Int) - (a1.size:Int))):Int).toNat))else(none))else(none))else(some a0))
theorem stringslite_TrimSuffix.calls (a0:ByteArray)(a1:ByteArray)(r:ByteArray)(w:World)(h:stringslite_TrimSuffix.f a0 a1=some r) :
 Calls Tryz.prog 126 #[.string a0,.string a1] w fun e w'=>e=.returned (.string r)∧Drawn0 w w':=by
 have H:=h;clear h;unfold stringslite_TrimSuffix.f at H;replace H:=zM H;obtain⟨gN,A3,H⟩:=H;replace H:=zb H;obtain⟨rfl,H⟩|⟨rfl,H⟩:=H
 ·obtain rfl:=zs H;go_enter Tryz.func126,Tryz.ntmps126;(go_wp2_with (first|((with_reducible refine zq3 (f:=163) rfl ?_);refine zq7 (some 7) rfl rfl Tryz.func163 zY2 rfl #[.string a0,.string a1] rfl zY0 ?_;(with_reducible refine(stringslite_HasSuffix.calls a0 a1 false _ A3.out).mono ?_);rintro e w' ⟨rfl,⟨nd,rfl⟩⟩;refine⟨_,rfl,?_⟩)));go_ret;exact⟨by first|rfl|(simp;done)|(simp[*];done),by repeat(first|exact Drawn0.refl _|apply Drawn0.step)⟩
 obtain⟨GQ,hji5⟩:∃ j_:Int,(wrap64 ((a0.size:Int) - (a1.size:Int)))=j_:=⟨_,rfl⟩;first|rw[hji5]at H|simp only[hji5]at H
 (try rw[hji5]at A3);have hji5w:(IntKind.i64.wrap ((a0.size:Int) - (a1.size:Int)))=GQ:=(i64_w _).trans hji5;replace H:=zp H zktd;obtain⟨⟨c6b0,c6b1⟩,H⟩:=H;replace H:=zp H zktd;obtain⟨⟨c7b0,c7b1⟩,H⟩:=H;obtain rfl:=zs H;go_enter Tryz.func126,Tryz.ntmps126;go_wp2_with (first|((with_reducible refine zq3 (f:=163) rfl ?_);refine zq7 (some 7) rfl rfl Tryz.func163 zY2 rfl #[.string a0,.string a1] rfl zY0 ?_;(with_reducible refine(stringslite_HasSuffix.calls a0 a1 true _ A3.out).mono ?_);rintro e w' ⟨rfl,⟨nd,rfl⟩⟩;refine⟨_,rfl,?_⟩))
 go_ret;exact⟨by first|rfl|(simp;done)|(simp only[← hji5]<;>(first|rfl|simp))|(simp[*];done),by repeat(first|exact Drawn0.refl _|apply Drawn0.step)⟩
def yaE.f (a0:ByteArray)(a1:ByteArray):Option (ByteArray):=(stringslite_TrimSuffix.f a0 a1).bind fun d9=>(some d9)
theorem yaE.calls (a0:ByteArray)(a1:ByteArray)(r:ByteArray)(w:World)(h:yaE.f a0 a1=some r) :
 Calls Tryz.prog 75 #[.string a0,.string a1] w fun e w'=>e=.returned (.string r)∧Drawn0 w w':=by
 have H:=h;clear h;unfold yaE.f at H;obtain⟨d9,A3,H⟩:=zM H;obtain rfl:=zs H;go_enter Tryz.func75,Tryz.ntmps75;go_wp2_with (first|((with_reducible refine zq3 (f:=126) rfl ?_);refine zq7 (some 7) rfl rfl Tryz.func126 zY2 rfl #[.string a0,.string a1] rfl zY0 ?_;(with_reducible refine(stringslite_TrimSuffix.calls a0 a1 d9 _ A3.out).mono ?_);rintro e w' ⟨rfl,⟨nd,rfl⟩⟩;refine⟨_,rfl,?_⟩))
 go_ret;exact⟨by first|rfl|(simp;done)|(simp[*];done),by repeat(first|exact Drawn0.refl _|apply Drawn0.step)⟩
def yaX.f (k:Nat)(a0:ByteArray):Option (ByteArray × ByteArray × Bool):=(yaQ.f a0 (⟨#[60]⟩:ByteArray)).bind fun Bn=>((yaE.f Bn.1 (⟨#[62]⟩:ByteArray)).bind fun db=>((yaj.f db (⟨#[64]⟩:ByteArray)).bind fun ld=>(if Bn.2=true then((yaC.f k ld.1 ld.2.1).bind fun fX=>(if fX=true then((yaM.f ld.1 ld.2.1).bind fun mf=>(if mf.toList=a0.toList then(some (ld.1,ld.2.1,true))else(some ((⟨#[]⟩:ByteArray),(⟨#[]⟩:ByteArray),false))))else(some ((⟨#[]⟩:ByteArray),(⟨#[]⟩:ByteArray),false))))else(some ((⟨#[]⟩:ByteArray),(⟨#[]⟩:ByteArray),false)))))
theorem yaX.calls (k:Nat)(a0:ByteArray)(r1:ByteArray)(r2:ByteArray)(r3:Bool)(w:World)(hG:GOK w)(h:yaX.f k a0=some (r1,r2,r3)) :
 Calls Tryz.prog 37 #[.string a0] w fun e w'=>e=.returned (.tuple #[.agg #[.string r1,.string r2],.bool r3])∧Below w.heap.size w w':=by
 have hu24:=Tryz.underlying24;have HG:=zA hG;clear hG;have HB:=zA (Below.refl w.heap.size w);have H:=h;clear h;unfold yaX.f at H;replace H:=zM H;obtain⟨⟨g0,OD⟩,A2,H⟩:=H;try dsimp only at H
 replace H:=zM H;obtain⟨db,A3,H⟩:=H;replace H:=zM H;obtain⟨⟨ig,gM,sR⟩,A4,H⟩:=H;try dsimp only at H
 replace H:=zb H;obtain⟨rfl,H⟩|⟨rfl,H⟩:=H
 ·obtain⟨rfl,rfl,rfl⟩:=zs3 H;go_enter Tryz.func37,Tryz.ntmps37;(go_wp2_with (first|((with_reducible refine zq5 (N:=2) rfl ?_);refine zE (N:=2) (cs:=#[.string bz0,.string bz0]) (t:=24) ?_;intro dw hg fW hbox hb;have bB:=zA hbox;have xj:=zA (zS hg:w.heap.size≤dw);have xk:=zA (zS hg:w.heap.size≤dw);replace HB:=zA (zq1 zB hb);clear hb hbox hg)|((with_reducible refine zq3 (f:=74) rfl ?_);refine zq7 (some 12) rfl rfl Tryz.func74 zY2 rfl #[.string a0,.string bz3] rfl zY0 ?_;(with_reducible refine(yaQ.calls a0 bz3 g0 false _ A2.out).mono ?_);rintro e w' ⟨rfl,⟨nd,rfl⟩⟩;refine⟨_,rfl,?_⟩;(try(rw[drewN_self fW];generalize hq_:World.drewN fW _=fW;have an:Aside0 (fW.heap[dw]?=some (.cells #[.string bz0,.string bz0] 24 (0,0))):=⟨by rw[← hq_];exact(zK bB.out)⟩;have ap:Aside0 (Below w.heap.size w fW):=⟨by rw[← hq_];exact zB⟩;clear bB HB hq_;have bB:=an;have HB:=ap;clear an ap)))|((with_reducible refine zq3 (f:=75) rfl ?_);refine zq7 (some 17) rfl rfl Tryz.func75 zY2 rfl #[.string g0,.string bz12] rfl zY0 ?_;(with_reducible refine(yaE.calls g0 bz12 db _ A3.out).mono ?_);rintro e w' ⟨rfl,⟨nd,rfl⟩⟩;refine⟨_,rfl,?_⟩;(try(rw[drewN_self fW];generalize hq_:World.drewN fW _=fW;have an:Aside0 (fW.heap[dw]?=some (.cells #[.string bz0,.string bz0] 24 (0,0))):=⟨by rw[← hq_];exact(zK bB.out)⟩;have ap:Aside0 (Below w.heap.size w fW):=⟨by rw[← hq_];exact zB⟩;clear bB HB hq_;have bB:=an;have HB:=ap;clear an ap)))|((with_reducible refine zq3 (f:=33) rfl ?_);refine zq7 (some 18) rfl rfl Tryz.func33 zY2 rfl #[.string db,.string bz4] rfl zY0 ?_;(with_reducible refine(yaj.calls db bz4 ig gM sR _ ?side1 A4.out).mono ?_);(case side1=>exact zg);rintro e w' ⟨rfl,⟨nd,rfl⟩⟩;refine⟨_,rfl,?_⟩;(try(rw[drewN_self fW];generalize hq_:World.drewN fW _=fW;have an:Aside0 (fW.heap[dw]?=some (.cells #[.string bz0,.string bz0] 24 (0,0))):=⟨by rw[← hq_];exact(zK bB.out)⟩;have ap:Aside0 (Below w.heap.size w fW):=⟨by rw[← hq_];exact zB⟩;clear bB HB hq_;have bB:=an;have HB:=ap;clear an ap)))|((with_reducible refine zq5 (N:=9) rfl ?_);refine zE (N:=9) (cs:=#[.string bz0,.string bz0]) (t:=24) ?_;intro fk hg o7 hbox hb;have ez:=zA hbox;have xl:=zA (zS hg:w.heap.size≤fk);have xm:=zA (zS hg:w.heap.size≤fk);replace HB:=zA (zq1 zB hb);have nx:=zA (zNlt hg (zK bB.out):dw≠fk);have ny:=zA (zNgt hg (zK bB.out):fk≠dw);replace bB:=zA (zq2 (zK bB.out) hb);clear hb hbox hg;have GR:=ny.out;have GS:=nx.out;obtain⟨_,_⟩:=zc2 ez.out;obtain⟨_,_⟩:=zf2 ez.out;obtain⟨_,_⟩:=zc2 bB.out;obtain⟨_,_⟩:=zf2 bB.out)));refine bodyPost_ret (results_ct rfl _ _ dw 24 #[.string bz0,.string bz0] (0,0) _ rfl (zG bB.out) Tryz.underlying24 rfl zY2) rfl ?_;exact⟨zT,zB⟩
 replace H:=zM H;obtain⟨fX,A6,H⟩:=H;replace H:=zb H;obtain⟨rfl,H⟩|⟨rfl,H⟩:=H
 ·obtain⟨rfl,rfl,rfl⟩:=zs3 H;go_enter Tryz.func37,Tryz.ntmps37;(go_wp2_with (first|((with_reducible refine zq5 (N:=2) rfl ?_);refine zE (N:=2) (cs:=#[.string bz0,.string bz0]) (t:=24) ?_;intro dw hg fv hbox hb;have bB:=zA hbox;have xj:=zA (zS hg:w.heap.size≤dw);have xk:=zA (zS hg:w.heap.size≤dw);replace HB:=zA (zq1 zB hb);clear hb hbox hg)|((with_reducible refine zq3 (f:=74) rfl ?_);refine zq7 (some 12) rfl rfl Tryz.func74 zY2 rfl #[.string a0,.string bz3] rfl zY0 ?_;(with_reducible refine(yaQ.calls a0 bz3 g0 true _ A2.out).mono ?_);rintro e w' ⟨rfl,⟨nd,rfl⟩⟩;refine⟨_,rfl,?_⟩;(try(rw[drewN_self fv];generalize hq_:World.drewN fv _=fv;have an:Aside0 (fv.heap[dw]?=some (.cells #[.string bz0,.string bz0] 24 (0,0))):=⟨by rw[← hq_];exact(zK bB.out)⟩;have ap:Aside0 (Below w.heap.size w fv):=⟨by rw[← hq_];exact zB⟩;clear bB HB hq_;have bB:=an;have HB:=ap;clear an ap)))|((with_reducible refine zq3 (f:=75) rfl ?_);refine zq7 (some 17) rfl rfl Tryz.func75 zY2 rfl #[.string g0,.string bz12] rfl zY0 ?_;(with_reducible refine(yaE.calls g0 bz12 db _ A3.out).mono ?_);rintro e w' ⟨rfl,⟨nd,rfl⟩⟩;refine⟨_,rfl,?_⟩;(try(rw[drewN_self fv];generalize hq_:World.drewN fv _=fv;have an:Aside0 (fv.heap[dw]?=some (.cells #[.string bz0,.string bz0] 24 (0,0))):=⟨by rw[← hq_];exact(zK bB.out)⟩;have ap:Aside0 (Below w.heap.size w fv):=⟨by rw[← hq_];exact zB⟩;clear bB HB hq_;have bB:=an;have HB:=ap;clear an ap)))|((with_reducible refine zq3 (f:=33) rfl ?_);refine zq7 (some 18) rfl rfl Tryz.func33 zY2 rfl #[.string db,.string bz4] rfl zY0 ?_;(with_reducible refine(yaj.calls db bz4 ig gM sR _ ?side1 A4.out).mono ?_);(case side1=>exact zg);rintro e w' ⟨rfl,⟨nd,rfl⟩⟩;refine⟨_,rfl,?_⟩;(try(rw[drewN_self fv];generalize hq_:World.drewN fv _=fv;have an:Aside0 (fv.heap[dw]?=some (.cells #[.string bz0,.string bz0] 24 (0,0))):=⟨by rw[← hq_];exact(zK bB.out)⟩;have ap:Aside0 (Below w.heap.size w fv):=⟨by rw[← hq_];exact zB⟩;clear bB HB hq_;have bB:=an;have HB:=ap;clear an ap)))|((with_reducible refine zq5 (N:=9) rfl ?_);refine zE (N:=9) (cs:=#[.string bz0,.string bz0]) (t:=24) ?_;intro fk hg eG hbox hb;have ez:=zA hbox;have xl:=zA (zS hg:w.heap.size≤fk);have xm:=zA (zS hg:w.heap.size≤fk);replace HB:=zA (zq1 zB hb);have nx:=zA (zNlt hg (zK bB.out):dw≠fk);have ny:=zA (zNgt hg (zK bB.out):fk≠dw);replace bB:=zA (zq2 (zK bB.out) hb);clear hb hbox hg;have sS:=ny.out;have sT:=nx.out;obtain⟨_,_⟩:=zc2 ez.out;obtain⟨_,_⟩:=zf2 ez.out)|(go_at_call 66;(with_reducible refine(yaC.calls k ig gM false _ ?side1 A6.out).mono ?_);(case side1=>exact zg);rintro e kB ⟨rfl,hb⟩;replace bB:=zA (zq2 (g:=dw) (o:=.cells #[.string bz0,.string bz0] 24 (0,0)) (zG bB.out) hb);replace ez:=zA (zq2 (g:=fk) (o:=.cells #[.string ig,.string gM] 24 (0,0)) (zG ez.out) hb);replace HB:=zA (zq1 zB hb);clear hb;obtain⟨_,_⟩:=zc2 bB.out;obtain⟨_,_⟩:=zf2 bB.out)));refine bodyPost_ret (results_ct rfl _ _ dw 24 #[.string bz0,.string bz0] (0,0) _ rfl (zG bB.out) Tryz.underlying24 rfl zY2) rfl ?_;exact⟨zT,zB⟩
 replace H:=zM H;obtain⟨mf,A8,H⟩:=H;replace H:=zf H zkQNqnk zkQqn;obtain⟨⟨c9b0,c9b1,c9⟩,H⟩|⟨⟨c9b0,c9b1⟩,H⟩:=H
 ·obtain⟨rfl,rfl,rfl⟩:=zs3 H;go_enter Tryz.func37,Tryz.ntmps37;(go_wp2_with (first|((with_reducible refine zq5 (N:=2) rfl ?_);refine zE (N:=2) (cs:=#[.string bz0,.string bz0]) (t:=24) ?_;intro dw hg eH hbox hb;have bB:=zA hbox;have xj:=zA (zS hg:w.heap.size≤dw);have xk:=zA (zS hg:w.heap.size≤dw);replace HB:=zA (zq1 zB hb);clear hb hbox hg)|((with_reducible refine zq3 (f:=74) rfl ?_);refine zq7 (some 12) rfl rfl Tryz.func74 zY2 rfl #[.string a0,.string bz3] rfl zY0 ?_;(with_reducible refine(yaQ.calls a0 bz3 g0 true _ A2.out).mono ?_);rintro e w' ⟨rfl,⟨nd,rfl⟩⟩;refine⟨_,rfl,?_⟩;(try(rw[drewN_self eH];generalize hq_:World.drewN eH _=eH;have an:Aside0 (eH.heap[dw]?=some (.cells #[.string bz0,.string bz0] 24 (0,0))):=⟨by rw[← hq_];exact(zK bB.out)⟩;have ap:Aside0 (Below w.heap.size w eH):=⟨by rw[← hq_];exact zB⟩;clear bB HB hq_;have bB:=an;have HB:=ap;clear an ap)))|((with_reducible refine zq3 (f:=75) rfl ?_);refine zq7 (some 17) rfl rfl Tryz.func75 zY2 rfl #[.string g0,.string bz12] rfl zY0 ?_;(with_reducible refine(yaE.calls g0 bz12 db _ A3.out).mono ?_);rintro e w' ⟨rfl,⟨nd,rfl⟩⟩;refine⟨_,rfl,?_⟩;(try(rw[drewN_self eH];generalize hq_:World.drewN eH _=eH;have an:Aside0 (eH.heap[dw]?=some (.cells #[.string bz0,.string bz0] 24 (0,0))):=⟨by rw[← hq_];exact(zK bB.out)⟩;have ap:Aside0 (Below w.heap.size w eH):=⟨by rw[← hq_];exact zB⟩;clear bB HB hq_;have bB:=an;have HB:=ap;clear an ap)))|((with_reducible refine zq3 (f:=33) rfl ?_);refine zq7 (some 18) rfl rfl Tryz.func33 zY2 rfl #[.string db,.string bz4] rfl zY0 ?_;(with_reducible refine(yaj.calls db bz4 ig gM sR _ ?side1 A4.out).mono ?_);(case side1=>exact zg);rintro e w' ⟨rfl,⟨nd,rfl⟩⟩;refine⟨_,rfl,?_⟩;(try(rw[drewN_self eH];generalize hq_:World.drewN eH _=eH;have an:Aside0 (eH.heap[dw]?=some (.cells #[.string bz0,.string bz0] 24 (0,0))):=⟨by rw[← hq_];exact(zK bB.out)⟩;have ap:Aside0 (Below w.heap.size w eH):=⟨by rw[← hq_];exact zB⟩;clear bB HB hq_;have bB:=an;have HB:=ap;clear an ap)))|((with_reducible refine zq5 (N:=9) rfl ?_);refine zE (N:=9) (cs:=#[.string bz0,.string bz0]) (t:=24) ?_;intro fk hg qA hbox hb;have ez:=zA hbox;have xl:=zA (zS hg:w.heap.size≤fk);have xm:=zA (zS hg:w.heap.size≤fk);replace HB:=zA (zq1 zB hb);have nx:=zA (zNlt hg (zK bB.out):dw≠fk);have ny:=zA (zNgt hg (zK bB.out):fk≠dw);replace bB:=zA (zq2 (zK bB.out) hb);clear hb hbox hg;have sP:=ny.out;have sQ:=nx.out;obtain⟨_,_⟩:=zc2 ez.out;obtain⟨_,_⟩:=zf2 ez.out)|(go_at_call 66;(with_reducible refine(yaC.calls k ig gM true _ ?side1 A6.out).mono ?_);(case side1=>exact zg);rintro e la ⟨rfl,hb⟩;replace bB:=zA (zq2 (g:=dw) (o:=.cells #[.string bz0,.string bz0] 24 (0,0)) (zG bB.out) hb);replace ez:=zA (zq2 (g:=fk) (o:=.cells #[.string ig,.string gM] 24 (0,0)) (zG ez.out) hb);replace HB:=zA (zq1 zB hb);clear hb;obtain⟨_,_⟩:=zc2 ez.out;obtain⟨_,_⟩:=zf2 ez.out)|(go_at_call 24;(with_reducible refine(yaM.calls ig gM mf _ A8.out).mono ?_);rintro e kz ⟨rfl,hb⟩;replace bB:=zA (zq2 (zK bB.out) hb);replace ez:=zA (zq2 (zK ez.out) hb);replace HB:=zA (zq1 zB hb);clear hb;obtain⟨_,_⟩:=zc2 bB.out;obtain⟨_,_⟩:=zf2 bB.out)));refine bodyPost_ret (results_ct rfl _ _ dw 24 #[.string bz0,.string bz0] (0,0) _ rfl (zG bB.out) Tryz.underlying24 rfl zY2) rfl ?_;exact⟨zT,zB⟩
 obtain⟨rfl,rfl,rfl⟩:=zs3 H;go_enter Tryz.func37,Tryz.ntmps37;go_wp2_with (first|((with_reducible refine zq5 (N:=2) rfl ?_);refine zE (N:=2) (cs:=#[.string bz0,.string bz0]) (t:=24) ?_;intro dw hg et hbox hb;have bB:=zA hbox;have xj:=zA (zS hg:w.heap.size≤dw);have xk:=zA (zS hg:w.heap.size≤dw);replace HB:=zA (zq1 zB hb);clear hb hbox hg)|((with_reducible refine zq3 (f:=74) rfl ?_);refine zq7 (some 12) rfl rfl Tryz.func74 zY2 rfl #[.string a0,.string bz3] rfl zY0 ?_;(with_reducible refine(yaQ.calls a0 bz3 g0 true _ A2.out).mono ?_);rintro e w' ⟨rfl,⟨nd,rfl⟩⟩;refine⟨_,rfl,?_⟩;(try(rw[drewN_self et];generalize hq_:World.drewN et _=et;have an:Aside0 (et.heap[dw]?=some (.cells #[.string bz0,.string bz0] 24 (0,0))):=⟨by rw[← hq_];exact(zK bB.out)⟩;have ap:Aside0 (Below w.heap.size w et):=⟨by rw[← hq_];exact zB⟩;clear bB HB hq_;have bB:=an;have HB:=ap;clear an ap)))|((with_reducible refine zq3 (f:=75) rfl ?_);refine zq7 (some 17) rfl rfl Tryz.func75 zY2 rfl #[.string g0,.string bz12] rfl zY0 ?_;(with_reducible refine(yaE.calls g0 bz12 db _ A3.out).mono ?_);rintro e w' ⟨rfl,⟨nd,rfl⟩⟩;refine⟨_,rfl,?_⟩;(try(rw[drewN_self et];generalize hq_:World.drewN et _=et;have an:Aside0 (et.heap[dw]?=some (.cells #[.string bz0,.string bz0] 24 (0,0))):=⟨by rw[← hq_];exact(zK bB.out)⟩;have ap:Aside0 (Below w.heap.size w et):=⟨by rw[← hq_];exact zB⟩;clear bB HB hq_;have bB:=an;have HB:=ap;clear an ap)))|((with_reducible refine zq3 (f:=33) rfl ?_);refine zq7 (some 18) rfl rfl Tryz.func33 zY2 rfl #[.string db,.string bz4] rfl zY0 ?_;(with_reducible refine(yaj.calls db bz4 ig gM sR _ ?side1 A4.out).mono ?_);(case side1=>exact zg);rintro e w' ⟨rfl,⟨nd,rfl⟩⟩;refine⟨_,rfl,?_⟩;(try(rw[drewN_self et];generalize hq_:World.drewN et _=et;have an:Aside0 (et.heap[dw]?=some (.cells #[.string bz0,.string bz0] 24 (0,0))):=⟨by rw[← hq_];exact(zK bB.out)⟩;have ap:Aside0 (Below w.heap.size w et):=⟨by rw[← hq_];exact zB⟩;clear bB HB hq_;have bB:=an;have HB:=ap;clear an ap)))|((with_reducible refine zq5 (N:=9) rfl ?_);refine zE (N:=9) (cs:=#[.string bz0,.string bz0]) (t:=24) ?_;intro fk hg gK hbox hb;have ez:=zA hbox;have xl:=zA (zS hg:w.heap.size≤fk);have xm:=zA (zS hg:w.heap.size≤fk);replace HB:=zA (zq1 zB hb);have nx:=zA (zNlt hg (zK bB.out):dw≠fk);have ny:=zA (zNgt hg (zK bB.out):fk≠dw);replace bB:=zA (zq2 (zK bB.out) hb);clear hb hbox hg;have GT:=ny.out;have GU:=nx.out;obtain⟨_,_⟩:=zc2 ez.out;obtain⟨_,_⟩:=zf2 ez.out)|(go_at_call 66;(with_reducible refine(yaC.calls k ig gM true _ ?side1 A6.out).mono ?_);(case side1=>exact zg);rintro e eD ⟨rfl,hb⟩;replace bB:=zA (zq2 (g:=dw) (o:=.cells #[.string bz0,.string bz0] 24 (0,0)) (zG bB.out) hb);replace ez:=zA (zq2 (g:=fk) (o:=.cells #[.string ig,.string gM] 24 (0,0)) (zG ez.out) hb);replace HB:=zA (zq1 zB hb);clear hb;obtain⟨_,_⟩:=zc2 ez.out;obtain⟨_,_⟩:=zf2 ez.out)|(go_at_call 24;(with_reducible refine(yaM.calls ig gM mf _ A8.out).mono ?_);rintro e o3 ⟨rfl,hb⟩;replace bB:=zA (zq2 (zK bB.out) hb);replace ez:=zA (zq2 (zK ez.out) hb);replace HB:=zA (zq1 zB hb);clear hb;obtain⟨_,_⟩:=zc2 ez.out;obtain⟨_,_⟩:=zf2 ez.out;obtain⟨_,_⟩:=zc2 bB.out;obtain⟨_,_⟩:=zf2 bB.out))
 refine bodyPost_ret (results_ct rfl _ _ dw 24 #[.string ig,.string gM] (0,0) _ rfl (zG bB.out) Tryz.underlying24 rfl zY2) rfl ?_;exact⟨zT,zB⟩
end Go.Proofs.YtjdpdkdhfnpcgaaGreatDoor.Q
