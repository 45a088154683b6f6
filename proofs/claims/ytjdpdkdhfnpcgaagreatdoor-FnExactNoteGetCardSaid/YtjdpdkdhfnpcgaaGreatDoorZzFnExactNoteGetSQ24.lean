/- Of a text of ours what this claim needs. -/
import Derived.Test.YtjdpdkdhfnpcgaaGreatDoorZzFnExactNoteGetSQ0
import Derived.Test.YtjdpdkdhfnpcgaaGreatDoorZzFnExactNoteGetSAu
import Derived.Test.YtjdpdkdhfnpcgaaGreatDoorZzFnExactNoteGetSQ4
import Derived.Test.YtjdpdkdhfnpcgaaGreatDoorZzFnExactNoteGetSQ20
import Derived.Test.YtjdpdkdhfnpcgaaGreatDoorZzFnExactNoteGetSQ21
import Derived.Test.YtjdpdkdhfnpcgaaGreatDoorZzFnExactNoteGetSQ23
namespace Go.Proofs.YtjdpdkdhfnpcgaaGreatDoor.Q
open Go.RowKit Go.Proofs.YtjdpdkdhfnpcgaaGreatDoorW.PrintWords Go.Proofs.YtjdpdkdhfnpcgaaGreatDoorW.PrintLast Go.Proofs.YtjdpdkdhfnpcgaaGreatDoorW.PrintMore
attribute [local go_sem] max2_int min2_int max_two min_two max_three min_three max_four min_four
set_option linter.unusedVariables false
set_option linter.unusedSimpArgs false
theorem spec_l6Get.drewOut (w:World) (n:Nat) (p:Addr) (u:Value):(w.drewN n).setCell p u=(w.setCell p u).drewN n:=rfl
attribute [local go_sem] spec_l6Get.drewOut
mutual
def spec_l6Get.j0:Nat→List ByteArray→List ByteArray→Bool→Int→Int→ByteArray→ByteArray→Int→ByteArray→ByteArray→Option (Int × Int × ByteArray × ByteArray × Int × ByteArray × ByteArray × (List (S24)) × List ByteArray)
 | 0,_,_,_,_,_,_,_,_,_,_=>none
 | k+1,x3,x4,FE,mc,kT,kU,kV,kW,jV,jW=>if FE=true then (if 1 < (x4.length:Int) then ((spec_l1Num.f k (rdOf ByteArray.empty x4 1)).bind fun bm=>(if 1 < (x3.length:Int) then ((spec_MailGet.f k (rdOf ByteArray.empty x3 1)).bind fun rb=>(some (1,kT,kU,kV,bm,rb.1,rb.2.1,rb.2.2.1,rb.2.2.2.1))) else (none))) else (none)) else (if 0 < (x4.length:Int) then (if (rdOf ByteArray.empty x4 0).toList=([100,111,110,101]:List UInt8) then (spec_l6Get.j1 k x4 ((x4.length:Int)==3) mc kT kU kV kW jV jW) else (spec_l6Get.j1 k x4 false mc kT kU kV kW jV jW)) else (none))
def spec_l6Get.j1:Nat→List ByteArray→Bool→Int→Int→ByteArray→ByteArray→Int→ByteArray→ByteArray→Option (Int × Int × ByteArray × ByteArray × Int × ByteArray × ByteArray × (List (S24)) × List ByteArray)
 | 0,_,_,_,_,_,_,_,_,_=>none
 | k+1,x4,FF,mc,kT,kU,kV,kW,jV,jW=>if FF=true then (if 1 < (x4.length:Int) then ((spec_l1Num.f k (rdOf ByteArray.empty x4 1)).bind fun me=>(if 2 < (x4.length:Int) then ((spec_AddrGet.f k (rdOf ByteArray.empty x4 2)).bind fun zQ=>(some (2,me,zQ.1,zQ.2.1,kW,jV,jW,([]:List (S24)),([]:List ByteArray)))) else (none))) else (none)) else (if 0 < (x4.length:Int) then (if (rdOf ByteArray.empty x4 0).toList=([108,97,116,101,114]:List UInt8) then (spec_l6Get.j2 k x4 ((x4.length:Int)==4) mc kT kU kV kW jV jW) else (spec_l6Get.j2 k x4 false mc kT kU kV kW jV jW)) else (none))
def spec_l6Get.j2:Nat→List ByteArray→Bool→Int→Int→ByteArray→ByteArray→Int→ByteArray→ByteArray→Option (Int × Int × ByteArray × ByteArray × Int × ByteArray × ByteArray × (List (S24)) × List ByteArray)
 | 0,_,_,_,_,_,_,_,_,_=>none
 | k+1,x4,FG,mc,kT,kU,kV,kW,jV,jW=>if FG=true then (if 1 < (x4.length:Int) then ((spec_l1Num.f k (rdOf ByteArray.empty x4 1)).bind fun mf=>(if 2 < (x4.length:Int) then ((spec_AddrGet.f k (rdOf ByteArray.empty x4 2)).bind fun zR=>(if 3 < (x4.length:Int) then ((spec_l1Num.f k (rdOf ByteArray.empty x4 3)).bind fun rc=>(some (3,mf,zR.1,zR.2.1,rc,jV,jW,([]:List (S24)),([]:List ByteArray)))) else (none))) else (none))) else (none)) else (some (mc,kT,kU,kV,kW,jV,jW,([]:List (S24)),([]:List ByteArray)))
end
def spec_l6Get.f (k:Nat) (a0:ByteArray):Option (Int × Int × ByteArray × ByteArray × Int × ByteArray × ByteArray × (List (S24)) × List ByteArray):=(spec_l1Cut.f k a0 10 1).bind fun cR=>(if 0 < (cR.length:Int) then ((spec_l1Cut.f k (rdOf ByteArray.empty cR 0) 32 4).bind fun aA=>(if 0 < (aA.length:Int) then (if (rdOf ByteArray.empty aA 0).toList=([97,100,100]:List UInt8) then (if (aA.length:Int)=2 then (spec_l6Get.j0 k cR aA ((cR.length:Int)==2) 0 0 (⟨#[]⟩:ByteArray) (⟨#[]⟩:ByteArray) 0 (⟨#[]⟩:ByteArray) (⟨#[]⟩:ByteArray)) else (spec_l6Get.j0 k cR aA false 0 0 (⟨#[]⟩:ByteArray) (⟨#[]⟩:ByteArray) 0 (⟨#[]⟩:ByteArray) (⟨#[]⟩:ByteArray))) else (spec_l6Get.j0 k cR aA false 0 0 (⟨#[]⟩:ByteArray) (⟨#[]⟩:ByteArray) 0 (⟨#[]⟩:ByteArray) (⟨#[]⟩:ByteArray))) else (none))) else (none))
set_option maxHeartbeats 8000000 in
set_option maxRecDepth 100000 in
theorem spec_l6Get.calls (k:Nat) (a0:ByteArray) (r1:Int) (r2:Int) (r3:ByteArray) (r4:ByteArray) (r5:Int) (r6:ByteArray) (r7:ByteArray) (r8:List (S24)) (r9:List ByteArray) (w:World) (h:spec_l6Get.f k a0=some (r1,r2,r3,r4,r5,r6,r7,r8,r9)) :
 Calls Tryz.prog 39 #[.string a0] w fun e w'=>∃ kX kY:Value,e=.returned (.agg #[.int .i64 r1,.int .i64 r2,.string r3,.string r4,.int .i64 r5,.string r6,.string r7,kX,kY])∧Kd.R k24 24 w' w.heap.size (fun _=>True) kX r8∧Kd.R Kd.string 9 w' w.heap.size (fun _=>True) kY r9∧Below w.heap.size w w':=by
 have hu30:=Tryz.underlying30
 have hu28:=Tryz.underlying28
 have hu24:=Tryz.underlying24
 have HB:=zA (Below.refl w.heap.size w)
 have H:((spec_l1Cut.f k a0 10 1).bind fun cR=>(if 0 < (cR.length:Int) then ((spec_l1Cut.f k (rdOf ByteArray.empty cR 0) 32 4).bind fun aA=>(if 0 < (aA.length:Int) then (if (rdOf ByteArray.empty aA 0).toList=([97,100,100]:List UInt8) then (if (aA.length:Int)=2 then (spec_l6Get.j0 k cR aA ((cR.length:Int)==2) 0 0 bz0 bz0 0 bz0 bz0) else (spec_l6Get.j0 k cR aA false 0 0 bz0 bz0 0 bz0 bz0)) else (spec_l6Get.j0 k cR aA false 0 0 bz0 bz0 0 bz0 bz0)) else (none))) else (none)))=some (r1,r2,r3,r4,r5,r6,r7,r8,r9):=h
 clear h
 replace H:=Option.bind_eq_some_iff.mp H
 obtain ⟨cR,bv,H⟩:=H
 try dsimp only at H
 have A2:=zA bv
 clear bv
 obtain ⟨c3,H⟩:=zp H
 have c3b0:decide (0 < (cR.length:Int))=true:=decide_eq_true c3
 have c3b1:decide (0 < cR.length)=true:=decide_eq_true zY6
 clear c3
 replace H:=Option.bind_eq_some_iff.mp H
 obtain ⟨aA,ci,H⟩:=H
 try dsimp only at H
 have A4:=zA ci
 clear ci
 have iy:=zA H
 clear H
 go_enter Tryz.func39,Tryz.ntmps39
 go_upto_region 4 with (first|((with_reducible refine zq5 (N:=2) rfl ?_);(try (refine gate_guard zY30 ?_;dsimp only));refine zE (N:=2) (cs:=#[.int .i64 0,.int .i64 0,.string bz0,.string bz0,.int .i64 0,.string bz0,.string bz0,.slice none 0 0,.slice none 0 0]) (t:=30) ?_;intro bQ hg w6 hbox hb;have am:=zA hbox;have FH:=zA (zS hg:w.heap.size≤bQ);have FI:=zA (zS hg:w.heap.size≤bQ);replace HB:=zA (zq0 zB hb);clear hb hbox hg)|((with_reducible refine zq2 (f:=78) rfl ?_);refine zq4 (some 13) rfl rfl Tryz.func78 zY2 rfl #[.string a0,.int .u8 10,.int .i64 1] rfl zY0 ?_;(with_reducible refine (spec_l1Cut.calls k a0 10 1 cR _ A2.out).mono ?_);rintro e w7 ⟨Nb,rfl,ar,hb⟩;refine ⟨_,rfl,?_⟩;have jd:=zA (Kd.z6 ar (zq7 zB));replace am:=zA (zq1 (zK am.out) hb);replace HB:=zA (zq0 zB hb);clear hb ar;obtain ⟨yR,ql,nC⟩:=Kd.z9 jd.out;subst nC;have m0:0≤(0:Int):=zY6;have m3:0 < (cR.length:Int):=of_decide_eq_true zY1;obtain ⟨oW,FJ,oX⟩:=Kd.z11 (Kd.z8 jd.out).2.2 0 m0 m3;cases FJ;have qi197:(0 < cR.length)=True:=eq_true zY6;(try rw [show ((0:Int)).toNat=0 from rfl] at oX);(try rw [Addr.add_zero'] at oX);replace m0:=eq_true m0;replace m3:=eq_true m3)|((with_reducible refine zq2 (f:=78) rfl ?_);refine zq4 (some 17) rfl rfl Tryz.func78 zY2 rfl #[.string (rdOf ByteArray.empty cR 0),.int .u8 32,.int .i64 4] rfl zY0 ?_;(with_reducible refine (spec_l1Cut.calls k (rdOf ByteArray.empty cR 0) 32 4 aA _ A4.out).mono ?_);rintro e w9 ⟨rd,rfl,ar,hb⟩;refine ⟨_,rfl,?_⟩;have cS:=zA (Kd.z6 (Kd.R_new' ar (Kd.R_lt (zVR jd.out))) (zq7 zB));replace jd:=zA (Kd.R_elder' (zVR jd.out) (Kd.R_base ar) hb);replace am:=zA (zq1 (zK am.out) hb);replace HB:=zA (zq0 zB hb);clear hb ar)|((with_reducible refine zq5 (N:=5) rfl ?_);(try (refine gate_guard zY30 ?_;dsimp only));refine zE (N:=5) (cs:=#[.int .i64 0,.int .i64 0,.string bz0,.string bz0,.int .i64 0,.string bz0,.string bz0,.slice none 0 0,.slice none 0 0]) (t:=30) ?_;intro ay hg cv hbox hb;replace jd:=zA (Kd.z2 (zVR jd.out) hb);replace cS:=zA (Kd.z2 (zVR cS.out) hb);have aK:=zA hbox;have Nc:=zA (zS hg:w.heap.size≤ay);have Nd:=zA (zS hg:w.heap.size≤ay);replace HB:=zA (zq0 zB hb);have oY:=zA (zNlt hg (zK am.out):bQ≠ay);have oZ:=zA (zNgt hg (zK am.out):ay≠bQ);replace am:=zA (zq1 (zK am.out) hb);clear hb hbox hg;have Db:=oZ.out;have Dc:=oY.out;obtain ⟨lD,lE,lF,lG,nK,nL,nM,nN,nO⟩:=zc9 aK.out;obtain ⟨lH,lI,lJ,lK,nP,nQ,nR,nS,nT⟩:=zf9 aK.out))
 (try simp only [Act.put,zL0,zL1,zL2])
 go_cut [19] (fun FL wc=>∃ (kq:Nat) (re:Bool),FL=.bool re∧Aside0 (spec_l6Get.j0 kq cR aA re 0 0 bz0 bz0 0 bz0 bz0=some (r1,r2,r3,r4,r5,r6,r7,r8,r9))∧Aside0 (kq≤k)∧Aside0 (Kd.R Kd.string 9 wc w.heap.size (fun k_=>some k_≠(rd:Value).ownBlock) (.slice (some oW) cR.length ql) cR)∧Aside0 (Kd.R Kd.string 9 wc w.heap.size (fun k_=>some k_≠((.slice (some oW) cR.length ql):Value).ownBlock) rd aA)∧Aside0 (wc.heap[bQ]?=some (.cells #[.int .i64 0,.int .i64 0,.string bz0,.string bz0,.int .i64 0,.string bz0,.string bz0,(.slice none 0 0),(.slice none 0 0)] 30 (0,0)))∧Aside0 (wc.heap[ay]?=some (.cells #[.int .i64 0,.int .i64 0,.string bz0,.string bz0,.int .i64 0,.string bz0,.string bz0,(.slice none 0 0),(.slice none 0 0)] 30 (0,0)))∧Aside0 (Below w.heap.size w wc))
 case first =>
  have H:=iy.out
  clear iy
  obtain ⟨bj,H⟩:=zp H
  have c13b0:decide (0 < (aA.length:Int))=true:=decide_eq_true bj
  have c13b1:decide (0 < aA.length)=true:=decide_eq_true zY6
  clear bj
  (first|rw [c13b0]|(simp only [i64_w,i32_w];rw [c13b0])|skip)
  by_cases bB:(rdOf ByteArray.empty aA 0).toList=([97,100,100]:List UInt8)
  rotate_left
  ·rw [if_neg bB] at H
   have c14b0:((rdOf ByteArray.empty aA 0).toList==([97,100,100]:List UInt8))=false:=beq_eq_false_iff_ne.mpr bB
   have c14b1:((rdOf ByteArray.empty aA 0).toList != ([97,100,100]:List UInt8))=true:=bne_iff_ne.mpr bB
   have H':=zA H
   clear H
   obtain ⟨Nf,Ng,FM⟩:=Kd.z9 cS.out
   subst FM
   have gE:0≤(0:Int):=zY6
   have gF:0 < (aA.length:Int):=of_decide_eq_true zY1
   obtain ⟨dW,o0,bx⟩:=Kd.z11 (Kd.z8 cS.out).2.2 0 gE gF
   cases o0
   have qi202:(0 < aA.length)=True:=eq_true zY6
   (try rw [show ((0:Int)).toNat=0 from rfl] at bx)
   (try rw [Addr.add_zero'] at bx)
   have kk:dW.block≠ay:=Kd.z12 (Kd.R_ne cS.out aK.out zY4)
   have kl:dW.block≠ay:=Kd.z12 (Kd.R_ne cS.out aK.out zY4)
   have km:dW.block≠ay:=Kd.z12 (Kd.R_ne cS.out aK.out zY4)
   have kn:dW.block≠ay:=Kd.z12 (Kd.R_ne cS.out aK.out zY4)
   have ko:dW.block≠ay:=Kd.z12 (Kd.R_ne cS.out aK.out zY4)
   have kp:dW.block≠ay:=Kd.z12 (Kd.R_ne cS.out aK.out zY4)
   have kr:dW.block≠ay:=Kd.z12 (Kd.R_ne cS.out aK.out zY4)
   have ks:dW.block≠ay:=Kd.z12 (Kd.R_ne cS.out aK.out zY4)
   have kt:dW.block≠ay:=Kd.z12 (Kd.R_ne cS.out aK.out zY4)
   replace bx:=(zq12 (p:=⟨ay,0,none⟩) zY34 (.int .i64 0)).trans bx
   replace bx:=(zq12 (p:=⟨ay,1,none⟩) zY35 (.int .i64 0)).trans bx
   replace bx:=(zq12 (p:=⟨ay,2,none⟩) zY36 (.string bz0)).trans bx
   replace bx:=(zq12 (p:=⟨ay,3,none⟩) zY37 (.string bz0)).trans bx
   replace bx:=(zq12 (p:=⟨ay,4,none⟩) zY38 (.int .i64 0)).trans bx
   replace bx:=(zq12 (p:=⟨ay,5,none⟩) zY39 (.string bz0)).trans bx
   replace bx:=(zq12 (p:=⟨ay,6,none⟩) zY40 (.string bz0)).trans bx
   replace bx:=(zq12 (p:=⟨ay,7,none⟩) zY41 (.slice none 0 0)).trans bx
   replace bx:=(zq12 (p:=⟨ay,8,none⟩) zY42 (.slice none 0 0)).trans bx
   clear kk
   clear kl
   clear km
   clear kn
   clear ko
   clear kp
   clear kr
   clear ks
   clear kt
   replace gE:=eq_true gE
   replace gF:=eq_true gF
   go_wp2
   go_meet
   case rel=>exact ⟨_,(false),zY3,H',⟨by first|omega|exact Nat.le_refl _⟩,⟨by (with_reducible repeat (first|apply Kd.z1|apply Kd.z4|apply Kd.z3));exact Kd.z7 (zR9 ay (Kd.z10 jd.out aK.out zY4) (.int .i64 0) (.int .i64 0) (.string bz0) (.string bz0) (.int .i64 0) (.string bz0) (.string bz0) (.slice none 0 0) (.slice none 0 0)) (fun _ hk=>hk.1.2)⟩,⟨by (with_reducible repeat (first|apply Kd.z1|apply Kd.z4|apply Kd.z3));exact Kd.z7 (zR9 ay (Kd.z10 cS.out aK.out zY4) (.int .i64 0) (.int .i64 0) (.string bz0) (.string bz0) (.int .i64 0) (.string bz0) (.string bz0) (.slice none 0 0) (.slice none 0 0)) (fun _ hk=>hk.1.2)⟩,⟨zG am.out⟩,⟨zG aK.out⟩,⟨zB⟩⟩
  rw [if_pos bB] at H
  have c14b0:((rdOf ByteArray.empty aA 0).toList==([97,100,100]:List UInt8))=true:=beq_iff_eq.mpr bB
  have c14b1:((rdOf ByteArray.empty aA 0).toList != ([97,100,100]:List UInt8))=false:=bne_eq_false_iff_eq.mpr bB
  clear bB
  by_cases bW:(aA.length:Int)=2
  rotate_left
  ·rw [if_neg bW] at H
   have c15b0:((aA.length:Int)==2)=false:=beq_eq_false_iff_ne.mpr bW
   have c15b1:((aA.length:Int) != 2)=true:=bne_iff_ne.mpr bW
   have H':=zA H
   clear H
   obtain ⟨uJ,uK,uL⟩:=Kd.z9 cS.out
   subst uL
   have gE:0≤(0:Int):=zY6
   have gF:0 < (aA.length:Int):=of_decide_eq_true zY1
   obtain ⟨dW,o0,bx⟩:=Kd.z11 (Kd.z8 cS.out).2.2 0 gE gF
   cases o0
   have qi202:(0 < aA.length)=True:=eq_true zY6
   (try rw [show ((0:Int)).toNat=0 from rfl] at bx)
   (try rw [Addr.add_zero'] at bx)
   have kk:dW.block≠ay:=Kd.z12 (Kd.R_ne cS.out aK.out zY4)
   have kl:dW.block≠ay:=Kd.z12 (Kd.R_ne cS.out aK.out zY4)
   have km:dW.block≠ay:=Kd.z12 (Kd.R_ne cS.out aK.out zY4)
   have kn:dW.block≠ay:=Kd.z12 (Kd.R_ne cS.out aK.out zY4)
   have ko:dW.block≠ay:=Kd.z12 (Kd.R_ne cS.out aK.out zY4)
   have kp:dW.block≠ay:=Kd.z12 (Kd.R_ne cS.out aK.out zY4)
   have kr:dW.block≠ay:=Kd.z12 (Kd.R_ne cS.out aK.out zY4)
   have ks:dW.block≠ay:=Kd.z12 (Kd.R_ne cS.out aK.out zY4)
   have kt:dW.block≠ay:=Kd.z12 (Kd.R_ne cS.out aK.out zY4)
   replace bx:=(zq12 (p:=⟨ay,0,none⟩) zY34 (.int .i64 0)).trans bx
   replace bx:=(zq12 (p:=⟨ay,1,none⟩) zY35 (.int .i64 0)).trans bx
   replace bx:=(zq12 (p:=⟨ay,2,none⟩) zY36 (.string bz0)).trans bx
   replace bx:=(zq12 (p:=⟨ay,3,none⟩) zY37 (.string bz0)).trans bx
   replace bx:=(zq12 (p:=⟨ay,4,none⟩) zY38 (.int .i64 0)).trans bx
   replace bx:=(zq12 (p:=⟨ay,5,none⟩) zY39 (.string bz0)).trans bx
   replace bx:=(zq12 (p:=⟨ay,6,none⟩) zY40 (.string bz0)).trans bx
   replace bx:=(zq12 (p:=⟨ay,7,none⟩) zY41 (.slice none 0 0)).trans bx
   replace bx:=(zq12 (p:=⟨ay,8,none⟩) zY42 (.slice none 0 0)).trans bx
   clear kk
   clear kl
   clear km
   clear kn
   clear ko
   clear kp
   clear kr
   clear ks
   clear kt
   replace gE:=eq_true gE
   replace gF:=eq_true gF
   go_wp2
   go_meet
   case rel=>exact ⟨_,(false),zY3,H',⟨by first|omega|exact Nat.le_refl _⟩,⟨by (with_reducible repeat (first|apply Kd.z1|apply Kd.z4|apply Kd.z3));exact Kd.z7 (zR9 ay (Kd.z10 jd.out aK.out zY4) (.int .i64 0) (.int .i64 0) (.string bz0) (.string bz0) (.int .i64 0) (.string bz0) (.string bz0) (.slice none 0 0) (.slice none 0 0)) (fun _ hk=>hk.1.2)⟩,⟨by (with_reducible repeat (first|apply Kd.z1|apply Kd.z4|apply Kd.z3));exact Kd.z7 (zR9 ay (Kd.z10 cS.out aK.out zY4) (.int .i64 0) (.int .i64 0) (.string bz0) (.string bz0) (.int .i64 0) (.string bz0) (.string bz0) (.slice none 0 0) (.slice none 0 0)) (fun _ hk=>hk.1.2)⟩,⟨zG am.out⟩,⟨zG aK.out⟩,⟨zB⟩⟩
  rw [if_pos bW] at H
  have c15b0:((aA.length:Int)==2)=true:=beq_iff_eq.mpr bW
  have c15b1:((aA.length:Int) != 2)=false:=bne_eq_false_iff_eq.mpr bW
  clear bW
  have H':=zA H
  clear H
  obtain ⟨bk,bc,mg⟩:=Kd.z9 cS.out
  subst mg
  have gE:0≤(0:Int):=zY6
  have gF:0 < (aA.length:Int):=of_decide_eq_true zY1
  obtain ⟨dW,o0,bx⟩:=Kd.z11 (Kd.z8 cS.out).2.2 0 gE gF
  cases o0
  have qi202:(0 < aA.length)=True:=eq_true zY6
  (try rw [show ((0:Int)).toNat=0 from rfl] at bx)
  (try rw [Addr.add_zero'] at bx)
  have kk:dW.block≠ay:=Kd.z12 (Kd.R_ne cS.out aK.out zY4)
  have kl:dW.block≠ay:=Kd.z12 (Kd.R_ne cS.out aK.out zY4)
  have km:dW.block≠ay:=Kd.z12 (Kd.R_ne cS.out aK.out zY4)
  have kn:dW.block≠ay:=Kd.z12 (Kd.R_ne cS.out aK.out zY4)
  have ko:dW.block≠ay:=Kd.z12 (Kd.R_ne cS.out aK.out zY4)
  have kp:dW.block≠ay:=Kd.z12 (Kd.R_ne cS.out aK.out zY4)
  have kr:dW.block≠ay:=Kd.z12 (Kd.R_ne cS.out aK.out zY4)
  have ks:dW.block≠ay:=Kd.z12 (Kd.R_ne cS.out aK.out zY4)
  have kt:dW.block≠ay:=Kd.z12 (Kd.R_ne cS.out aK.out zY4)
  replace bx:=(zq12 (p:=⟨ay,0,none⟩) zY34 (.int .i64 0)).trans bx
  replace bx:=(zq12 (p:=⟨ay,1,none⟩) zY35 (.int .i64 0)).trans bx
  replace bx:=(zq12 (p:=⟨ay,2,none⟩) zY36 (.string bz0)).trans bx
  replace bx:=(zq12 (p:=⟨ay,3,none⟩) zY37 (.string bz0)).trans bx
  replace bx:=(zq12 (p:=⟨ay,4,none⟩) zY38 (.int .i64 0)).trans bx
  replace bx:=(zq12 (p:=⟨ay,5,none⟩) zY39 (.string bz0)).trans bx
  replace bx:=(zq12 (p:=⟨ay,6,none⟩) zY40 (.string bz0)).trans bx
  replace bx:=(zq12 (p:=⟨ay,7,none⟩) zY41 (.slice none 0 0)).trans bx
  replace bx:=(zq12 (p:=⟨ay,8,none⟩) zY42 (.slice none 0 0)).trans bx
  clear kk
  clear kl
  clear km
  clear kn
  clear ko
  clear kp
  clear kr
  clear ks
  clear kt
  replace gE:=eq_true gE
  replace gF:=eq_true gF
  go_wp2
  go_meet
  case rel=>exact ⟨_,(((cR.length:Int)==2)),zY3,H',⟨by first|omega|exact Nat.le_refl _⟩,⟨by (with_reducible repeat (first|apply Kd.z1|apply Kd.z4|apply Kd.z3));exact Kd.z7 (zR9 ay (Kd.z10 jd.out aK.out zY4) (.int .i64 0) (.int .i64 0) (.string bz0) (.string bz0) (.int .i64 0) (.string bz0) (.string bz0) (.slice none 0 0) (.slice none 0 0)) (fun _ hk=>hk.1.2)⟩,⟨by (with_reducible repeat (first|apply Kd.z1|apply Kd.z4|apply Kd.z3));exact Kd.z7 (zR9 ay (Kd.z10 cS.out aK.out zY4) (.int .i64 0) (.int .i64 0) (.string bz0) (.string bz0) (.int .i64 0) (.string bz0) (.string bz0) (.slice none 0 0) (.slice none 0 0)) (fun _ hk=>hk.1.2)⟩,⟨zG am.out⟩,⟨zG aK.out⟩,⟨zB⟩⟩
 case rest =>
  clear iy
  try clear c1
  try clear p1
  try clear q1
  try clear lr
  try clear qi1
  try clear p2
  try clear q2
  try clear vw
  try clear qi2
  try clear c3
  try clear c3b0
  try clear c3b1
  try clear c7
  try clear dI
  try clear bj
  try clear c13b0
  try clear c13b1
  try clear bB
  try clear c14b0
  try clear c14b1
  try clear bW
  try clear c15b0
  try clear c15b1
  try clear lD lE lF lG nK nL nM nN nO
  try clear lH lI lJ lK nP nQ nR nS nT
  try clear oX
  try clear bx
  try clear m0
  try clear gE
  try clear m3
  try clear gF
  obtain ⟨kq,re,rfl,HA,HJ4,eB,au,am,aK,HB⟩:=hcut
  cases kq with
  | zero=>exact absurd HA.out (by simp [spec_l6Get.j0])
  | succ kj4 =>
   have H:=HA.out
   clear HA
   simp only [spec_l6Get.j0] at H
   by_cases cL:re=true
   ·subst cL
    rw [if_pos rfl] at H
    obtain ⟨ch,H⟩:=zp H
    have c20b0:decide (1 < (aA.length:Int))=true:=decide_eq_true ch
    have c20b1:decide (1 < aA.length)=true:=decide_eq_true zY6
    clear ch
    replace H:=Option.bind_eq_some_iff.mp H
    obtain ⟨bm,ir,H⟩:=H
    try dsimp only at H
    have gW:=zA ir
    clear ir
    obtain ⟨cI,H⟩:=zp H
    have c22b0:decide (1 < (cR.length:Int))=true:=decide_eq_true cI
    have c22b1:decide (1 < cR.length)=true:=decide_eq_true zY6
    clear cI
    replace H:=Option.bind_eq_some_iff.mp H
    obtain ⟨⟨cb,fT,fU,iF,kZ⟩,kG,H⟩:=H
    try dsimp only at H
    have kH:=zA kG
    clear kG
    simp only [Option.some.injEq,Prod.mk.injEq] at H
    obtain ⟨rfl,rfl,rfl,rfl,rfl,rfl,rfl,rfl,rfl⟩:=H
    have FN:=oZ.out
    have FO:=oY.out
    obtain ⟨o1,o2,o3,o4,o5,o6,o7,o8,o9⟩:=zc9 aK.out
    obtain ⟨pa,pb,pc,pd,pf,pg,ph,pi,pj⟩:=zf9 aK.out
    obtain ⟨En,Eo,uD⟩:=Kd.z9 au.out
    subst uD
    have eK:0≤(1:Int):=zY6
    have eL:1 < (aA.length:Int):=of_decide_eq_true zY1
    obtain ⟨fb,jX,d8⟩:=Kd.z11 (Kd.z8 au.out).2.2 1 eK eL
    cases jX
    (try simp only [show (1:Int).toNat=1 from rfl,Nat.reduceMul,Nat.reduceEqDiff,Go.Addr.add,↓reduceIte] at d8)
    have qi203:(1 < aA.length)=True:=eq_true zY6
    (try rw [show ((1:Int)).toNat=1 from rfl] at d8)
    have g9:fb.block≠ay:=Kd.z12 (Kd.R_ne au.out aK.out zY4)
    replace d8:=(zq12 (p:=⟨ay,0,none⟩) zY18 (.int .i64 1)).trans d8
    clear g9
    replace eK:=eq_true eK
    replace eL:=eq_true eL
    go_wp2_with (first|((with_reducible refine zq2 (f:=79) rfl ?_);refine zq4 (some 38) rfl rfl Tryz.func79 zY2 rfl #[.string (rdOf ByteArray.empty aA 1)] rfl zY0 ?_;(with_reducible refine (spec_l1Num.calls kj4 (rdOf ByteArray.empty aA 1) bm _ gW.out).mono ?_);rintro e w' ⟨rfl,⟨nd,rfl⟩⟩;refine ⟨_,rfl,?_⟩;have pk:0≤(1:Int):=zY6;have pl:1 < (cR.length:Int):=of_decide_eq_true zY1;obtain ⟨FP,FQ,k0⟩:=Kd.z11 (Kd.z8 eB.out).2.2 1 pk pl;obtain rfl:oW=FP:=(by injection FQ);(try simp only [show (1:Int).toNat=1 from rfl,Nat.reduceMul,Nat.reduceEqDiff,Go.Addr.add,↓reduceIte] at k0);have qi205:(1 < cR.length)=True:=eq_true zY6;(try rw [show ((1:Int)).toNat=1 from rfl] at k0);have rf:oW.block≠ay:=Kd.z12 (Kd.R_ne eB.out aK.out zY4);have rg:oW.block≠ay:=Kd.z12 (Kd.R_ne eB.out aK.out zY4);replace k0:=(zq12 (p:=⟨ay,0,none⟩) (by first|(rw [zq8];exact rf)|(show (Addr.add _ _).block≠_;rw [zq8];exact rf)|exact rf) (.int .i64 1)).trans k0;replace k0:=(zq12 (p:=⟨ay,4,none⟩) (by first|(rw [zq8];exact rg)|(show (Addr.add _ _).block≠_;rw [zq8];exact rg)|exact rg) (.int .i64 bm)).trans k0;clear rf;clear rg;replace pk:=eq_true pk;replace pl:=eq_true pl)|((with_reducible refine zq2 (f:=80) rfl ?_);refine zq4 (some 44) rfl rfl Tryz.func80 zY2 rfl #[.string (rdOf ByteArray.empty cR 1)] rfl zY0 ?_;(with_reducible refine (spec_MailGet.calls kj4 (rdOf ByteArray.empty cR 1) cb fT fU iF kZ _ kH.out).mono ?_);rintro e eG ⟨Nh,Nk,rfl,ar,cC,hb⟩;refine ⟨_,rfl,?_⟩;have rh:=zA (Kd.z6 ar (zq7 zB));have ri:=zA (Kd.z6 (Kd.R_new' (Kd.R_new' cC (Kd.R_lt (by exact zr (Kd.z7 (Kd.z5 (p:=⟨ay,4,none⟩) (Kd.z5 (p:=⟨ay,0,none⟩) (Kd.z10 eB.out aK.out zY4) (fun _ hk=>hk.2) (.int .i64 1)) (fun _ hk=>hk.2) (.int .i64 bm)) (fun _ h_=>h_.1))))) (Kd.R_lt (by exact zr (Kd.z7 (Kd.z5 (p:=⟨ay,4,none⟩) (Kd.z5 (p:=⟨ay,0,none⟩) (Kd.z10 au.out aK.out zY4) (fun _ hk=>hk.2) (.int .i64 1)) (fun _ hk=>hk.2) (.int .i64 bm)) (fun _ h_=>h_.1))))) (zq7 zB));replace eB:=zA (Kd.R_elder' (by exact zr (Kd.z7 (Kd.z5 (p:=⟨ay,4,none⟩) (Kd.z5 (p:=⟨ay,0,none⟩) (Kd.z10 eB.out aK.out zY4) (fun _ hk=>hk.2) (.int .i64 1)) (fun _ hk=>hk.2) (.int .i64 bm)) (fun _ h_=>h_.1))) (Kd.R_base cC) hb);replace au:=zA (Kd.R_elder' (by exact zr (Kd.z7 (Kd.z5 (p:=⟨ay,4,none⟩) (Kd.z5 (p:=⟨ay,0,none⟩) (Kd.z10 au.out aK.out zY4) (fun _ hk=>hk.2) (.int .i64 1)) (fun _ hk=>hk.2) (.int .i64 bm)) (fun _ h_=>h_.1))) (Kd.R_base cC) hb);replace am:=zA (zq1 (g:=bQ) (o:=.cells #[.int .i64 0,.int .i64 0,.string bz0,.string bz0,.int .i64 0,.string bz0,.string bz0,.slice none 0 0,.slice none 0 0] 30 (0,0)) (zG am.out) hb);replace aK:=zA (zq1 (g:=ay) (o:=.cells #[.int .i64 1,.int .i64 0,.string bz0,.string bz0,.int .i64 bm,.string bz0,.string bz0,.slice none 0 0,.slice none 0 0] 30 (0,0)) (zG aK.out) hb);replace HB:=zA (zq0 zB hb);clear hb ar cC)|((with_reducible refine zq5 (N:=6) rfl ?_);(try (refine gate_guard zY30 ?_;dsimp only));refine zE (N:=6) (cs:=#[.string bz0,.string bz0,.slice none 0 0,.slice none 0 0]) (t:=28) ?_;intro gG hg gb hbox hb;replace eB:=zA (Kd.z2 (zVR eB.out) hb);replace au:=zA (Kd.z2 (zVR au.out) hb);replace rh:=zA (Kd.z2 (zVR rh.out) hb);replace ri:=zA (Kd.z2 (zVR ri.out) hb);have rj:=zA hbox;have Nl:=zA (zS hg:w.heap.size≤gG);have Nm:=zA (zS hg:w.heap.size≤gG);replace HB:=zA (zq0 zB hb);have FR:=zA (zNlt hg (zK am.out):bQ≠gG);have FS:=zA (zNgt hg (zK am.out):gG≠bQ);replace am:=zA (zq1 (zK am.out) hb);have FT:=zA (zNlt hg (zK aK.out):ay≠gG);have FU:=zA (zNgt hg (zK aK.out):gG≠ay);replace aK:=zA (zq1 (zK aK.out) hb);clear hb hbox hg;have uR:=FS.out;have uS:=FR.out;have sU:=FU.out;have sV:=FT.out;obtain ⟨qO,qP,zU,zV⟩:=zc4 rj.out;obtain ⟨qQ,qR,zW,zY⟩:=zf4 rj.out;obtain ⟨kR,kS,vd⟩:=Kd.z9 rh.out;subst vd;obtain ⟨jO,jP,ve⟩:=Kd.z9 ri.out;subst ve;obtain ⟨rk,rl,rm,rn,ro,rp,rq,rr,rt⟩:=zc9 aK.out;obtain ⟨ru,rv,rx,ry,rz,rA,rB,rC,rD⟩:=zf9 aK.out;obtain ⟨zZ,z7,z8,Aa,Ab,Ac,Ad,Ae,Af⟩:=zc9 am.out;obtain ⟨Ag,Ah,Ai,Aj,Ak,Al,Am,An,Ao⟩:=zf9 am.out))
    refine bodyPost_ret (results_cell_row rfl _ _ bQ 30 #[.int .i64 1,.int .i64 0,.string bz0,.string bz0,.int .i64 bm,.string cb,.string fT,.slice kR fU.length kS,.slice jO iF.length jP] (0,0) _ rfl (zG am.out) Tryz.underlying30 rfl zY2) rfl ?_
    exact ⟨_,_,zT,by (with_reducible repeat (first|apply Kd.z1|apply Kd.z4|apply Kd.z3));exact Kd.z7 (zR9 bQ (Kd.z5 (p:=⟨ay,8,none⟩) (Kd.z5 (p:=⟨ay,7,none⟩) (Kd.z5 (p:=⟨ay,6,none⟩) (Kd.z5 (p:=⟨ay,5,none⟩) (Kd.z5 (p:=⟨gG,3,none⟩) (Kd.z5 (p:=⟨gG,2,none⟩) (Kd.z5 (p:=⟨gG,1,none⟩) (Kd.z5 (p:=⟨gG,0,none⟩) (Kd.z10 (Kd.z10 (Kd.z10 rh.out rj.out zY4) aK.out zY4) am.out zY4) (fun _ hk=>hk.1.1.2) (.string cb)) (fun _ hk=>hk.1.1.2) (.string fT)) (fun _ hk=>hk.1.1.2) (.slice kR fU.length kS)) (fun _ hk=>hk.1.1.2) (.slice jO iF.length jP)) (fun _ hk=>hk.1.2) (.string cb)) (fun _ hk=>hk.1.2) (.string fT)) (fun _ hk=>hk.1.2) (.slice kR fU.length kS)) (fun _ hk=>hk.1.2) (.slice jO iF.length jP)) (.int .i64 1) (.int .i64 0) (.string bz0) (.string bz0) (.int .i64 bm) (.string cb) (.string fT) (.slice kR fU.length kS) (.slice jO iF.length jP)) (fun _ hk=>trivial),by (with_reducible repeat (first|apply Kd.z1|apply Kd.z4|apply Kd.z3));exact Kd.z7 (zR9 bQ (Kd.z5 (p:=⟨ay,8,none⟩) (Kd.z5 (p:=⟨ay,7,none⟩) (Kd.z5 (p:=⟨ay,6,none⟩) (Kd.z5 (p:=⟨ay,5,none⟩) (Kd.z5 (p:=⟨gG,3,none⟩) (Kd.z5 (p:=⟨gG,2,none⟩) (Kd.z5 (p:=⟨gG,1,none⟩) (Kd.z5 (p:=⟨gG,0,none⟩) (Kd.z10 (Kd.z10 (Kd.z10 ri.out rj.out zY4) aK.out zY4) am.out zY4) (fun _ hk=>hk.1.1.2) (.string cb)) (fun _ hk=>hk.1.1.2) (.string fT)) (fun _ hk=>hk.1.1.2) (.slice kR fU.length kS)) (fun _ hk=>hk.1.1.2) (.slice jO iF.length jP)) (fun _ hk=>hk.1.2) (.string cb)) (fun _ hk=>hk.1.2) (.string fT)) (fun _ hk=>hk.1.2) (.slice kR fU.length kS)) (fun _ hk=>hk.1.2) (.slice jO iF.length jP)) (.int .i64 1) (.int .i64 0) (.string bz0) (.string bz0) (.int .i64 bm) (.string cb) (.string fT) (.slice kR fU.length kS) (.slice jO iF.length jP)) (fun _ hk=>trivial),zB⟩
   replace cL:=Bool.eq_false_iff.mpr cL
   subst cL
   rw [if_neg zfn] at H
   have vx:=zA H
   clear H
   go_upto_region 9 with (fail)
   go_cut [49] (fun FV wc=>∃ (kq:Nat) (rE:Bool),FV=.bool rE∧Aside0 (spec_l6Get.j1 kq aA rE 0 0 bz0 bz0 0 bz0 bz0=some (r1,r2,r3,r4,r5,r6,r7,r8,r9))∧Aside0 (kq≤kj4)∧Aside0 (Kd.R Kd.string 9 wc w.heap.size (fun _=>True) rd aA)∧Aside0 (wc.heap[bQ]?=some (.cells #[.int .i64 0,.int .i64 0,.string bz0,.string bz0,.int .i64 0,.string bz0,.string bz0,(.slice none 0 0),(.slice none 0 0)] 30 (0,0)))∧Aside0 (wc.heap[ay]?=some (.cells #[.int .i64 0,.int .i64 0,.string bz0,.string bz0,.int .i64 0,.string bz0,.string bz0,(.slice none 0 0),(.slice none 0 0)] 30 (0,0)))∧Aside0 (Below w.heap.size w wc))
   case first =>
    have H:=vx.out
    clear vx
    obtain ⟨iu,H⟩:=zp H
    have c37b0:decide (0 < (aA.length:Int))=true:=decide_eq_true iu
    have c37b1:decide (0 < aA.length)=true:=decide_eq_true zY6
    clear iu
    (first|rw [c37b0]|(simp only [i64_w,i32_w];rw [c37b0])|skip)
    by_cases jY:(rdOf ByteArray.empty aA 0).toList=([100,111,110,101]:List UInt8)
    rotate_left
    ·rw [if_neg jY] at H
     have c38b0:((rdOf ByteArray.empty aA 0).toList==([100,111,110,101]:List UInt8))=false:=beq_eq_false_iff_ne.mpr jY
     have c38b1:((rdOf ByteArray.empty aA 0).toList != ([100,111,110,101]:List UInt8))=true:=bne_iff_ne.mpr jY
     have H':=zA H
     clear H
     obtain ⟨Nn,No,FW⟩:=Kd.z9 au.out
     subst FW
     have jZ:0≤(0:Int):=zY6
     have j4:0 < (aA.length:Int):=of_decide_eq_true zY1
     obtain ⟨FX,vy,mh⟩:=Kd.z11 (Kd.z8 au.out).2.2 0 jZ j4
     cases vy
     have qi216:(0 < aA.length)=True:=eq_true zY6
     (try rw [show ((0:Int)).toNat=0 from rfl] at mh)
     (try rw [Addr.add_zero'] at mh)
     replace jZ:=eq_true jZ
     replace j4:=eq_true j4
     go_wp2
     go_meet
     case rel=>exact ⟨_,(false),zY3,H',⟨by have:=HJ4.out;first|omega|exact Nat.le_refl _⟩,⟨by (with_reducible repeat (first|apply Kd.z1|apply Kd.z4|apply Kd.z3));exact Kd.z7 au.out (fun _ hk=>trivial)⟩,⟨zK am.out⟩,⟨zK aK.out⟩,⟨zB⟩⟩
    rw [if_pos jY] at H
    have c38b0:((rdOf ByteArray.empty aA 0).toList==([100,111,110,101]:List UInt8))=true:=beq_iff_eq.mpr jY
    have c38b1:((rdOf ByteArray.empty aA 0).toList != ([100,111,110,101]:List UInt8))=false:=bne_eq_false_iff_eq.mpr jY
    clear jY
    have H':=zA H
    clear H
    obtain ⟨jq,iU,vz⟩:=Kd.z9 au.out
    subst vz
    have jZ:0≤(0:Int):=zY6
    have j4:0 < (aA.length:Int):=of_decide_eq_true zY1
    obtain ⟨FX,vy,mh⟩:=Kd.z11 (Kd.z8 au.out).2.2 0 jZ j4
    cases vy
    have qi216:(0 < aA.length)=True:=eq_true zY6
    (try rw [show ((0:Int)).toNat=0 from rfl] at mh)
    (try rw [Addr.add_zero'] at mh)
    replace jZ:=eq_true jZ
    replace j4:=eq_true j4
    go_wp2
    go_meet
    case rel=>exact ⟨_,(((aA.length:Int)==3)),zY3,H',⟨by have:=HJ4.out;first|omega|exact Nat.le_refl _⟩,⟨by (with_reducible repeat (first|apply Kd.z1|apply Kd.z4|apply Kd.z3));exact Kd.z7 au.out (fun _ hk=>trivial)⟩,⟨zK am.out⟩,⟨zK aK.out⟩,⟨zB⟩⟩
   case rest =>
    clear vx
    try clear c1
    try clear p1
    try clear q1
    try clear lr
    try clear qi1
    try clear c2
    try clear p2
    try clear q2
    try clear vw
    try clear qi2
    try clear c3
    try clear c3b0
    try clear c3b1
    try clear c7
    try clear c8
    try clear dI
    try clear bj
    try clear c13b0
    try clear c13b1
    try clear bB
    try clear c14b0
    try clear c14b1
    try clear bW
    try clear c15b0
    try clear c15b1
    try clear cL
    try clear Ap
    try clear Aq
    try clear FY
    try clear qi19
    try clear ch
    try clear c20b0
    try clear c20b1
    try clear vA
    try clear vB
    try clear Ar
    try clear qi20
    try clear vC
    try clear vD
    try clear As
    try clear qi21
    try clear cI
    try clear c22b0
    try clear c22b1
    try clear gi
    try clear lM
    try clear fm
    try clear iu
    try clear c37b0
    try clear c37b1
    try clear jY
    try clear c38b0
    try clear c38b1
    try clear f5
    try clear lD lE lF lG nK nL nM nN nO
    try clear o1 o2 o3 o4 o5 o6 o7 o8 o9
    try clear qO qP zU zV
    try clear rk rl rm rn ro rp rq rr rt
    try clear zZ z7 z8 Aa Ab Ac Ad Ae Af
    try clear lH lI lJ lK nP nQ nR nS nT
    try clear pa pb pc pd pf pg ph pi pj
    try clear qQ qR zW zY
    try clear ru rv rx ry rz rA rB rC rD
    try clear Ag Ah Ai Aj Ak Al Am An Ao
    try clear oX
    try clear bx
    try clear d8
    try clear k0
    try clear mh
    try clear p1
    try clear m0
    try clear p2
    try clear gE
    try clear eK
    try clear pk
    try clear jZ
    try clear q1
    try clear m3
    try clear q2
    try clear gF
    try clear eL
    try clear pl
    try clear j4
    obtain ⟨kq,rE,rfl,HA,HJ35,au,am,aK,HB⟩:=hcut
    cases kq with
    | zero=>exact absurd HA.out (by simp [spec_l6Get.j1])
    | succ kj35 =>
     have H:=HA.out
     clear HA
     simp only [spec_l6Get.j1] at H
     by_cases pm:rE=true
     ·subst pm
      rw [if_pos rfl] at H
      obtain ⟨vE,H⟩:=zp H
      have c42b0:decide (1 < (aA.length:Int))=true:=decide_eq_true vE
      have c42b1:decide (1 < aA.length)=true:=decide_eq_true zY6
      clear vE
      replace H:=Option.bind_eq_some_iff.mp H
      obtain ⟨me,At,H⟩:=H
      try dsimp only at H
      have FZ:=zA At
      clear At
      obtain ⟨iA,H⟩:=zp H
      have c44b0:decide (2 < (aA.length:Int))=true:=decide_eq_true iA
      have c44b1:decide (2 < aA.length)=true:=decide_eq_true zY6
      clear iA
      replace H:=Option.bind_eq_some_iff.mp H
      obtain ⟨⟨Au,Av,F0⟩,Aw,H⟩:=H
      try dsimp only at H
      have F1:=zA Aw
      clear Aw
      simp only [Option.some.injEq,Prod.mk.injEq] at H
      obtain ⟨rfl,rfl,rfl,rfl,rfl,rfl,rfl,rfl,rfl⟩:=H
      have Ax:=oZ.out
      have Ay:=oY.out
      obtain ⟨vF,vG,vH,vI,vJ,vK,vL,vM,vN⟩:=zc9 aK.out
      obtain ⟨vO,vP,vQ,vR,vS,vT,vU,vV,vW⟩:=zf9 aK.out
      obtain ⟨F2,F3,vX⟩:=Kd.z9 au.out
      subst vX
      have rF:0≤(1:Int):=zY6
      have rG:1 < (aA.length:Int):=of_decide_eq_true zY1
      obtain ⟨rH,F4,pn⟩:=Kd.z11 (Kd.z8 au.out).2.2 1 rF rG
      cases F4
      (try simp only [show (1:Int).toNat=1 from rfl,Nat.reduceMul,Nat.reduceEqDiff,Go.Addr.add,↓reduceIte] at pn)
      have qi217:(1 < aA.length)=True:=eq_true zY6
      (try rw [show ((1:Int)).toNat=1 from rfl] at pn)
      have rI:rH.block≠ay:=Kd.z12 (Kd.R_ne au.out aK.out zY4)
      replace pn:=(zq12 (p:=⟨ay,0,none⟩) (by first|(rw [zq8];exact rI)|(show (Addr.add _ _).block≠_;rw [zq8];exact rI)|exact rI) (.int .i64 2)).trans pn
      clear rI
      replace rF:=eq_true rF
      replace rG:=eq_true rG
      go_wp2_with (first|((with_reducible refine zq2 (f:=79) rfl ?_);refine zq4 (some 63) rfl rfl Tryz.func79 zY2 rfl #[.string (rdOf ByteArray.empty aA 1)] rfl zY0 ?_;(with_reducible refine (spec_l1Num.calls kj35 (rdOf ByteArray.empty aA 1) me _ FZ.out).mono ?_);rintro e w' ⟨rfl,⟨nd,rfl⟩⟩;refine ⟨_,rfl,?_⟩;have rJ:0≤(2:Int):=zY6;have rK:2 < (aA.length:Int):=of_decide_eq_true zY1;obtain ⟨F5,F6,mi⟩:=Kd.z11 (Kd.z8 au.out).2.2 2 rJ rK;obtain rfl:rH=F5:=(by injection F6);(try simp only [show (2:Int).toNat=2 from rfl,Nat.reduceMul,Nat.reduceEqDiff,Go.Addr.add,↓reduceIte] at mi);have qi219:(2 < aA.length)=True:=eq_true zY6;(try rw [show ((2:Int)).toNat=2 from rfl] at mi);have rL:rH.block≠ay:=Kd.z12 (Kd.R_ne au.out aK.out zY4);have rM:rH.block≠ay:=Kd.z12 (Kd.R_ne au.out aK.out zY4);replace mi:=(zq12 (p:=⟨ay,0,none⟩) (by first|(rw [zq8];exact rL)|(show (Addr.add _ _).block≠_;rw [zq8];exact rL)|exact rL) (.int .i64 2)).trans mi;replace mi:=(zq12 (p:=⟨ay,1,none⟩) (by first|(rw [zq8];exact rM)|(show (Addr.add _ _).block≠_;rw [zq8];exact rM)|exact rM) (.int .i64 me)).trans mi;clear rL;clear rM;replace rJ:=eq_true rJ;replace rK:=eq_true rK)|((with_reducible refine zq2 (f:=81) rfl ?_);refine zq4 (some 69) rfl rfl Tryz.func81 zY2 rfl #[.string (rdOf ByteArray.empty aA 2)] rfl zY0 ?_;(with_reducible refine (spec_AddrGet.calls kj35 (rdOf ByteArray.empty aA 2) Au Av F0 _ F1.out).mono ?_);rintro e F7 ⟨rfl,hb⟩;refine ⟨_,rfl,?_⟩;replace au:=zA (Kd.z2 (by exact zr (Kd.z7 (zR2 ay (Kd.z10 au.out aK.out zY4) (.int .i64 2) (.int .i64 me)) (fun _ h_=>h_.1))) hb);replace am:=zA (zq1 (g:=bQ) (o:=.cells #[.int .i64 0,.int .i64 0,.string bz0,.string bz0,.int .i64 0,.string bz0,.string bz0,.slice none 0 0,.slice none 0 0] 30 (0,0)) (zG am.out) hb);replace aK:=zA (zq1 (g:=ay) (o:=.cells #[.int .i64 2,.int .i64 me,.string bz0,.string bz0,.int .i64 0,.string bz0,.string bz0,.slice none 0 0,.slice none 0 0] 30 (0,0)) (zG aK.out) hb);replace HB:=zA (zq0 zB hb);clear hb)|((with_reducible refine zq5 (N:=8) rfl ?_);(try (refine gate_guard zY30 ?_;dsimp only));refine zE (N:=8) (cs:=#[.string bz0,.string bz0]) (t:=24) ?_;intro m4 hg FD hbox hb;replace au:=zA (Kd.z2 (zVR au.out) hb);have Az:=zA hbox;have Np:=zA (zS hg:w.heap.size≤m4);have Nq:=zA (zS hg:w.heap.size≤m4);replace HB:=zA (zq0 zB hb);have F8:=zA (zNlt hg (zK am.out):bQ≠m4);have F9:=zA (zNgt hg (zK am.out):m4≠bQ);replace am:=zA (zq1 (zK am.out) hb);have Ga:=zA (zNlt hg (zK aK.out):ay≠m4);have Gb:=zA (zNgt hg (zK aK.out):m4≠ay);replace aK:=zA (zq1 (zK aK.out) hb);clear hb hbox hg;have Nr:=F9.out;have Ns:=F8.out;have Nt:=Gb.out;have Nu:=Ga.out;obtain ⟨Gc,Gd⟩:=zc2 Az.out;obtain ⟨Ge,Gf⟩:=zf2 Az.out;obtain ⟨Gg,Gh,Gi,Gj,Gk,Gl,Gm,Gn,Gp⟩:=zc9 aK.out;obtain ⟨Gq,Gr,Gs,Gt,Gu,Gv,Gw,Gx,Gy⟩:=zf9 aK.out;obtain ⟨vY,vZ,wa,wb,wd,we,wg,wh,wi⟩:=zc9 am.out;obtain ⟨wj,wk,wl,wm,wn,wo,wq,ws,wt⟩:=zf9 am.out))
      refine bodyPost_ret (results_cell_row rfl _ _ bQ 30 #[.int .i64 2,.int .i64 me,.string Au,.string Av,.int .i64 0,.string bz0,.string bz0,.slice none 0 0,.slice none 0 0] (0,0) _ rfl (zG am.out) Tryz.underlying30 rfl zY2) rfl ?_
      exact ⟨_,_,zT,zNil,zNil,zB⟩
     replace pm:=Bool.eq_false_iff.mpr pm
     subst pm
     rw [if_neg zfn] at H
     have wu:=zA H
     clear H
     go_upto_region 14 with (fail)
     go_cut [74] (fun Gz wc=>∃ (kq:Nat) (rN:Bool),Gz=.bool rN∧Aside0 (spec_l6Get.j2 kq aA rN 0 0 bz0 bz0 0 bz0 bz0=some (r1,r2,r3,r4,r5,r6,r7,r8,r9))∧Aside0 (kq≤kj35)∧Aside0 (Kd.R Kd.string 9 wc w.heap.size (fun _=>True) rd aA)∧Aside0 (wc.heap[bQ]?=some (.cells #[.int .i64 0,.int .i64 0,.string bz0,.string bz0,.int .i64 0,.string bz0,.string bz0,(.slice none 0 0),(.slice none 0 0)] 30 (0,0)))∧Aside0 (wc.heap[ay]?=some (.cells #[.int .i64 0,.int .i64 0,.string bz0,.string bz0,.int .i64 0,.string bz0,.string bz0,(.slice none 0 0),(.slice none 0 0)] 30 (0,0)))∧Aside0 (Below w.heap.size w wc))
     case first =>
      have H:=wu.out
      clear wu
      obtain ⟨wv,H⟩:=zp H
      have c57b0:decide (0 < (aA.length:Int))=true:=decide_eq_true wv
      have c57b1:decide (0 < aA.length)=true:=decide_eq_true zY6
      clear wv
      (first|rw [c57b0]|(simp only [i64_w,i32_w];rw [c57b0])|skip)
      by_cases k3:(rdOf ByteArray.empty aA 0).toList=([108,97,116,101,114]:List UInt8)
      rotate_left
      ·rw [if_neg k3] at H
       have c58b0:((rdOf ByteArray.empty aA 0).toList==([108,97,116,101,114]:List UInt8))=false:=beq_eq_false_iff_ne.mpr k3
       have c58b1:((rdOf ByteArray.empty aA 0).toList != ([108,97,116,101,114]:List UInt8))=true:=bne_iff_ne.mpr k3
       have H':=zA H
       clear H
       obtain ⟨jU,iE,oS⟩:=Kd.z9 au.out
       subst oS
       have k4:0≤(0:Int):=zY6
       have k5:0 < (aA.length:Int):=of_decide_eq_true zY1
       obtain ⟨GA,ww,m5⟩:=Kd.z11 (Kd.z8 au.out).2.2 0 k4 k5
       cases ww
       have qi224:(0 < aA.length)=True:=eq_true zY6
       (try rw [show ((0:Int)).toNat=0 from rfl] at m5)
       (try rw [Addr.add_zero'] at m5)
       replace k4:=eq_true k4
       replace k5:=eq_true k5
       go_wp2
       go_meet
       case rel=>exact ⟨_,(false),zY3,H',⟨by have:=HJ4.out;have:=HJ35.out;first|omega|exact Nat.le_refl _⟩,⟨zVR au.out⟩,⟨zK am.out⟩,⟨zK aK.out⟩,⟨zB⟩⟩
      rw [if_pos k3] at H
      have c58b0:((rdOf ByteArray.empty aA 0).toList==([108,97,116,101,114]:List UInt8))=true:=beq_iff_eq.mpr k3
      have c58b1:((rdOf ByteArray.empty aA 0).toList != ([108,97,116,101,114]:List UInt8))=false:=bne_eq_false_iff_eq.mpr k3
      clear k3
      have H':=zA H
      clear H
      obtain ⟨Nv,Nw,GB⟩:=Kd.z9 au.out
      subst GB
      have k4:0≤(0:Int):=zY6
      have k5:0 < (aA.length:Int):=of_decide_eq_true zY1
      obtain ⟨GA,ww,m5⟩:=Kd.z11 (Kd.z8 au.out).2.2 0 k4 k5
      cases ww
      have qi224:(0 < aA.length)=True:=eq_true zY6
      (try rw [show ((0:Int)).toNat=0 from rfl] at m5)
      (try rw [Addr.add_zero'] at m5)
      replace k4:=eq_true k4
      replace k5:=eq_true k5
      go_wp2
      go_meet
      case rel=>exact ⟨_,(((aA.length:Int)==4)),zY3,H',⟨by have:=HJ4.out;have:=HJ35.out;first|omega|exact Nat.le_refl _⟩,⟨zVR au.out⟩,⟨zK am.out⟩,⟨zK aK.out⟩,⟨zB⟩⟩
     case rest =>
      clear wu
      try clear c1
      try clear p1
      try clear q1
      try clear lr
      try clear qi1
      try clear c2
      try clear p2
      try clear q2
      try clear vw
      try clear qi2
      try clear c3
      try clear c3b0
      try clear c3b1
      try clear c4
      try clear c5
      try clear c7
      try clear c8
      try clear dI
      try clear bj
      try clear c13b0
      try clear c13b1
      try clear bB
      try clear c14b0
      try clear c14b1
      try clear bW
      try clear c15b0
      try clear c15b1
      try clear cL
      try clear Ap
      try clear Aq
      try clear FY
      try clear qi19
      try clear ch
      try clear c20b0
      try clear c20b1
      try clear vA
      try clear vB
      try clear Ar
      try clear qi20
      try clear vC
      try clear vD
      try clear As
      try clear qi21
      try clear cI
      try clear c22b0
      try clear c22b1
      try clear Nx
      try clear Ny
      try clear Nz
      try clear qi22
      try clear gi
      try clear lM
      try clear fm
      try clear iu
      try clear c37b0
      try clear c37b1
      try clear jY
      try clear c38b0
      try clear c38b1
      try clear f5
      try clear pm
      try clear vE
      try clear c42b0
      try clear c42b1
      try clear iA
      try clear c44b0
      try clear c44b1
      try clear l6
      try clear oA
      try clear gA
      try clear wv
      try clear c57b0
      try clear c57b1
      try clear k3
      try clear c58b0
      try clear c58b1
      try clear lD lE lF lG nK nL nM nN nO
      try clear o1 o2 o3 o4 o5 o6 o7 o8 o9
      try clear qO qP zU zV
      try clear rk rl rm rn ro rp rq rr rt
      try clear zZ z7 z8 Aa Ab Ac Ad Ae Af
      try clear vF vG vH vI vJ vK vL vM vN
      try clear Gc Gd
      try clear Gg Gh Gi Gj Gk Gl Gm Gn Gp
      try clear vY vZ wa wb wd we wg wh wi
      try clear lH lI lJ lK nP nQ nR nS nT
      try clear pa pb pc pd pf pg ph pi pj
      try clear qQ qR zW zY
      try clear ru rv rx ry rz rA rB rC rD
      try clear Ag Ah Ai Aj Ak Al Am An Ao
      try clear vO vP vQ vR vS vT vU vV vW
      try clear Ge Gf
      try clear Gq Gr Gs Gt Gu Gv Gw Gx Gy
      try clear wj wk wl wm wn wo wq ws wt
      try clear oX
      try clear bx
      try clear d8
      try clear k0
      try clear mh
      try clear pn
      try clear mi
      try clear m5
      try clear p1
      try clear Ap
      try clear m0
      try clear p2
      try clear vA
      try clear gE
      try clear eK
      try clear pk
      try clear vC
      try clear jZ
      try clear rF
      try clear rJ
      try clear k4
      try clear q1
      try clear Aq
      try clear m3
      try clear q2
      try clear vB
      try clear gF
      try clear eL
      try clear pl
      try clear vD
      try clear j4
      try clear rG
      try clear rK
      try clear k5
      obtain ⟨kq,rN,rfl,HA,HJ55,au,am,aK,HB⟩:=hcut
      cases kq with
      | zero=>exact absurd HA.out (by simp [spec_l6Get.j2])
      | succ kj55 =>
       have H:=HA.out
       clear HA
       simp only [spec_l6Get.j2] at H
       by_cases rO:rN=true
       rotate_left
       ·replace rO:=Bool.eq_false_iff.mpr rO
        subst rO
        rw [if_neg zfn] at H
        simp only [Option.some.injEq,Prod.mk.injEq] at H
        obtain ⟨rfl,rfl,rfl,rfl,rfl,rfl,rfl,rfl,rfl⟩:=H
        have GC:=oZ.out
        have GD:=oY.out
        obtain ⟨_,_,_,_,_,_,_,_,_⟩:=zc9 aK.out
        obtain ⟨_,_,_,_,_,_,_,_,_⟩:=zf9 aK.out
        obtain ⟨_,_,_,_,_,_,_,_,_⟩:=zc9 am.out
        obtain ⟨_,_,_,_,_,_,_,_,_⟩:=zf9 am.out
        go_wp2
        refine bodyPost_ret (results_cell_row rfl _ _ bQ 30 #[.int .i64 0,.int .i64 0,.string bz0,.string bz0,.int .i64 0,.string bz0,.string bz0,.slice none 0 0,.slice none 0 0] (0,0) _ rfl (zG am.out) Tryz.underlying30 rfl zY2) rfl ?_
        exact ⟨_,_,zT,zNil,zNil,zB⟩
       subst rO
       rw [if_pos rfl] at H
       obtain ⟨wx,H⟩:=zp H
       have c62b0:decide (1 < (aA.length:Int))=true:=decide_eq_true wx
       have c62b1:decide (1 < aA.length)=true:=decide_eq_true zY6
       clear wx
       replace H:=Option.bind_eq_some_iff.mp H
       obtain ⟨mf,AA,H⟩:=H
       try dsimp only at H
       have GE:=zA AA
       clear AA
       obtain ⟨AB,H⟩:=zp H
       have c64b0:decide (2 < (aA.length:Int))=true:=decide_eq_true AB
       have c64b1:decide (2 < aA.length)=true:=decide_eq_true zY6
       clear AB
       replace H:=Option.bind_eq_some_iff.mp H
       obtain ⟨⟨rP,rQ,GF⟩,AC,H⟩:=H
       try dsimp only at H
       have GG:=zA AC
       clear AC
       obtain ⟨AD,H⟩:=zp H
       have c66b0:decide (3 < (aA.length:Int))=true:=decide_eq_true AD
       have c66b1:decide (3 < aA.length)=true:=decide_eq_true zY6
       clear AD
       replace H:=Option.bind_eq_some_iff.mp H
       obtain ⟨rc,AE,H⟩:=H
       try dsimp only at H
       have GH:=zA AE
       clear AE
       simp only [Option.some.injEq,Prod.mk.injEq] at H
       obtain ⟨rfl,rfl,rfl,rfl,rfl,rfl,rfl,rfl,rfl⟩:=H
       have zw:=oZ.out
       have zx:=oY.out
       obtain ⟨_,_,_,_,_,_,_,_,_⟩:=zc9 aK.out
       obtain ⟨_,_,_,_,_,_,_,_,_⟩:=zf9 aK.out
       obtain ⟨oO,oP,vt⟩:=Kd.z9 au.out
       subst vt
       have wy:0≤(1:Int):=zY6
       have wz:1 < (aA.length:Int):=of_decide_eq_true zY1
       obtain ⟨j5,GI,rR⟩:=Kd.z11 (Kd.z8 au.out).2.2 1 wy wz
       cases GI
       (try simp only [show (1:Int).toNat=1 from rfl,Nat.reduceMul,Nat.reduceEqDiff,Go.Addr.add,↓reduceIte] at rR)
       have qi225:(1 < aA.length)=True:=eq_true zY6
       (try rw [show ((1:Int)).toNat=1 from rfl] at rR)
       have rS:j5.block≠ay:=Kd.z12 (Kd.R_ne au.out aK.out zY4)
       replace rR:=(zq12 (p:=⟨ay,0,none⟩) (by first|(rw [zq8];exact rS)|(show (Addr.add _ _).block≠_;rw [zq8];exact rS)|exact rS) (.int .i64 3)).trans rR
       clear rS
       replace wy:=eq_true wy
       replace wz:=eq_true wz
       go_wp2_with (first|((with_reducible refine zq2 (f:=79) rfl ?_);refine zq4 (some 88) rfl rfl Tryz.func79 zY2 rfl #[.string (rdOf ByteArray.empty aA 1)] rfl zY0 ?_;(with_reducible refine (spec_l1Num.calls kj55 (rdOf ByteArray.empty aA 1) mf _ GE.out).mono ?_);rintro e w' ⟨rfl,⟨nd,rfl⟩⟩;refine ⟨_,rfl,?_⟩;have wA:0≤(2:Int):=zY6;have wB:2 < (aA.length:Int):=of_decide_eq_true zY1;obtain ⟨GJ,GK,m6⟩:=Kd.z11 (Kd.z8 au.out).2.2 2 wA wB;obtain rfl:j5=GJ:=(by injection GK);(try simp only [show (2:Int).toNat=2 from rfl,Nat.reduceMul,Nat.reduceEqDiff,Go.Addr.add,↓reduceIte] at m6);have qi227:(2 < aA.length)=True:=eq_true zY6;(try rw [show ((2:Int)).toNat=2 from rfl] at m6);have rT:j5.block≠ay:=Kd.z12 (Kd.R_ne au.out aK.out zY4);have rU:j5.block≠ay:=Kd.z12 (Kd.R_ne au.out aK.out zY4);replace m6:=(zq12 (p:=⟨ay,0,none⟩) (by first|(rw [zq8];exact rT)|(show (Addr.add _ _).block≠_;rw [zq8];exact rT)|exact rT) (.int .i64 3)).trans m6;replace m6:=(zq12 (p:=⟨ay,1,none⟩) (by first|(rw [zq8];exact rU)|(show (Addr.add _ _).block≠_;rw [zq8];exact rU)|exact rU) (.int .i64 mf)).trans m6;clear rT;clear rU;replace wA:=eq_true wA;replace wB:=eq_true wB)|((with_reducible refine zq2 (f:=81) rfl ?_);refine zq4 (some 94) rfl rfl Tryz.func81 zY2 rfl #[.string (rdOf ByteArray.empty aA 2)] rfl zY0 ?_;(with_reducible refine (spec_AddrGet.calls kj55 (rdOf ByteArray.empty aA 2) rP rQ GF _ GG.out).mono ?_);rintro e zP ⟨rfl,hb⟩;refine ⟨_,rfl,?_⟩;replace au:=zA (Kd.z2 (by exact zr (Kd.z7 (zR2 ay (Kd.z10 au.out aK.out zY4) (.int .i64 3) (.int .i64 mf)) (fun _ h_=>h_.1))) hb);replace am:=zA (zq1 (g:=bQ) (o:=.cells #[.int .i64 0,.int .i64 0,.string bz0,.string bz0,.int .i64 0,.string bz0,.string bz0,.slice none 0 0,.slice none 0 0] 30 (0,0)) (zG am.out) hb);replace aK:=zA (zq1 (g:=ay) (o:=.cells #[.int .i64 3,.int .i64 mf,.string bz0,.string bz0,.int .i64 0,.string bz0,.string bz0,.slice none 0 0,.slice none 0 0] 30 (0,0)) (zG aK.out) hb);replace HB:=zA (zq0 zB hb);clear hb)|((with_reducible refine zq5 (N:=10) rfl ?_);(try (refine gate_guard zY30 ?_;dsimp only));refine zE (N:=10) (cs:=#[.string bz0,.string bz0]) (t:=24) ?_;intro je hg NA hbox hb;replace au:=zA (Kd.z2 (zVR au.out) hb);have rV:=zA hbox;have NB:=zA (zS hg:w.heap.size≤je);have NC:=zA (zS hg:w.heap.size≤je);replace HB:=zA (zq0 zB hb);have GL:=zA (zNlt hg (zK am.out):bQ≠je);have GM:=zA (zNgt hg (zK am.out):je≠bQ);replace am:=zA (zq1 (zK am.out) hb);have GN:=zA (zNlt hg (zK aK.out):ay≠je);have GO:=zA (zNgt hg (zK aK.out):je≠ay);replace aK:=zA (zq1 (zK aK.out) hb);clear hb hbox hg;have GP:=GM.out;have GQ:=GL.out;have GR:=GO.out;have GS:=GN.out;obtain ⟨_,_⟩:=zc2 rV.out;obtain ⟨_,_⟩:=zf2 rV.out;obtain ⟨_,_,_,_,_,_,_,_,_⟩:=zc9 aK.out;obtain ⟨_,_,_,_,_,_,_,_,_⟩:=zf9 aK.out;have wC:0≤(3:Int):=zY6;have wD:3 < (aA.length:Int):=of_decide_eq_true zY1;obtain ⟨GT,GU,jf⟩:=Kd.z11 (Kd.z8 au.out).2.2 3 wC wD;obtain rfl:j5=GT:=(by injection GU);(try simp only [show (3:Int).toNat=3 from rfl,Nat.reduceMul,Nat.reduceEqDiff,Go.Addr.add,↓reduceIte] at jf);have qi232:(3 < aA.length)=True:=eq_true zY6;(try rw [show ((3:Int)).toNat=3 from rfl] at jf);have rW:j5.block≠je:=Kd.z12 (Kd.R_ne au.out rV.out zY4);have rX:j5.block≠je:=Kd.z12 (Kd.R_ne au.out rV.out zY4);have rY:j5.block≠ay:=Kd.z12 (Kd.R_ne au.out aK.out zY4);have rZ:j5.block≠ay:=Kd.z12 (Kd.R_ne au.out aK.out zY4);replace jf:=(zq12 (p:=⟨je,0,none⟩) (by first|(rw [zq8];exact rW)|(show (Addr.add _ _).block≠_;rw [zq8];exact rW)|exact rW) (.string rP)).trans jf;replace jf:=(zq12 (p:=⟨je,1,none⟩) (by first|(rw [zq8];exact rX)|(show (Addr.add _ _).block≠_;rw [zq8];exact rX)|exact rX) (.string rQ)).trans jf;replace jf:=(zq12 (p:=⟨ay,2,none⟩) (by first|(rw [zq8];exact rY)|(show (Addr.add _ _).block≠_;rw [zq8];exact rY)|exact rY) (.string rP)).trans jf;replace jf:=(zq12 (p:=⟨ay,3,none⟩) (by first|(rw [zq8];exact rZ)|(show (Addr.add _ _).block≠_;rw [zq8];exact rZ)|exact rZ) (.string rQ)).trans jf;clear rW;clear rX;clear rY;clear rZ;replace wC:=eq_true wC;replace wD:=eq_true wD)|((with_reducible refine zq2 (f:=79) rfl ?_);refine zq4 (some 102) rfl rfl Tryz.func79 zY2 rfl #[.string (rdOf ByteArray.empty aA 3)] rfl zY0 ?_;(with_reducible refine (spec_l1Num.calls kj55 (rdOf ByteArray.empty aA 3) rc _ GH.out).mono ?_);rintro e w' ⟨rfl,⟨nd,rfl⟩⟩;refine ⟨_,rfl,?_⟩;obtain ⟨_,_,_,_,_,_,_,_,_⟩:=zc9 am.out;obtain ⟨_,_,_,_,_,_,_,_,_⟩:=zf9 am.out))
       refine bodyPost_ret (results_cell_row rfl _ _ bQ 30 #[.int .i64 3,.int .i64 mf,.string rP,.string rQ,.int .i64 rc,.string bz0,.string bz0,.slice none 0 0,.slice none 0 0] (0,0) _ rfl (zG am.out) Tryz.underlying30 rfl zY2) rfl ?_
       exact ⟨_,_,zT,zNil,zNil,zB⟩
end Go.Proofs.YtjdpdkdhfnpcgaaGreatDoor.Q
