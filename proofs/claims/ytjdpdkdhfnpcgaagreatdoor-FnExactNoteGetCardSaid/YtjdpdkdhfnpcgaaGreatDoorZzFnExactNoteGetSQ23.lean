/- Of a text of ours what this claim needs. -/
import Derived.Test.YtjdpdkdhfnpcgaaGreatDoorZzFnExactNoteGetSQ0
import Derived.Test.YtjdpdkdhfnpcgaaGreatDoorZzFnExactNoteGetSAu
import Derived.Test.YtjdpdkdhfnpcgaaGreatDoorZzFnExactNoteGetSQ5
import Derived.Test.YtjdpdkdhfnpcgaaGreatDoorZzFnExactNoteGetSQ6
import Derived.Test.YtjdpdkdhfnpcgaaGreatDoorZzFnExactNoteGetSQ9
import Derived.Test.YtjdpdkdhfnpcgaaGreatDoorZzFnExactNoteGetSQ20
import Derived.Test.YtjdpdkdhfnpcgaaGreatDoorZzFnExactNoteGetSQ22
namespace Go.Proofs.YtjdpdkdhfnpcgaaGreatDoor.Q
open Go.RowKit Go.Proofs.YtjdpdkdhfnpcgaaGreatDoorW.PrintWords Go.Proofs.YtjdpdkdhfnpcgaaGreatDoorW.PrintLast Go.Proofs.YtjdpdkdhfnpcgaaGreatDoorW.PrintMore
attribute [local go_sem] max2_int min2_int max_two min_two max_three min_three max_four min_four
set_option linter.unusedVariables false
set_option linter.unusedSimpArgs false
def spec_DotGet.l0:Nat→ByteArray→List ByteArray→List ByteArray→Int→Option (List ByteArray × Bool)
 | 0,_,_,_,_=>none
 | k+1,x0,x4,x6,x7=>if (wrap64 (x7+1)) < (x4.length:Int) then (if 0≤x7 then (if x7 < (x4.length:Int) then (if (rdOf ByteArray.empty x4 x7).toList=([]:List UInt8) then (if x6.length < 8796093022208 then (spec_DotGet.l0 k x0 x4 (x6++[rdOf ByteArray.empty x4 x7]) (wrap64 (x7+1))) else (none)) else (if 0 < ((rdOf ByteArray.empty x4 x7).size:Int) then (if (bt (rdOf ByteArray.empty x4 x7) 0)=46 then (if 1≤((rdOf ByteArray.empty x4 x7).size:Int) then (if x6.length < 8796093022208 then (spec_DotGet.l0 k x0 x4 (x6++[(rdOf ByteArray.empty x4 x7).extract 1 (rdOf ByteArray.empty x4 x7).size]) (wrap64 (x7+1))) else (none)) else (none)) else (if x6.length < 8796093022208 then (spec_DotGet.l0 k x0 x4 (x6++[rdOf ByteArray.empty x4 x7]) (wrap64 (x7+1))) else (none))) else (none))) else (none)) else (none)) else ((spec_l2BodyOk.f k x6).bind fun cF=>(if cF=true then ((spec_l2Dots.f k x6).bind fun jN=>(if jN.toList=x0.toList then (some (x6,true)) else (some (([]:List ByteArray),false)))) else (some (([]:List ByteArray),false))))
def spec_DotGet.f (k:Nat) (a0:ByteArray):Option (List ByteArray × Bool):=if (a0.size:Int) > 800 then (some (([]:List ByteArray),false)) else ((spec_l2Lines.f k a0).bind fun l7=>(spec_DotGet.l0 k a0 l7.1 (([]:List ByteArray)) 0))
set_option maxHeartbeats 8000000 in
set_option maxRecDepth 100000 in
theorem spec_DotGet.calls (k:Nat) (a0:ByteArray) (r1:List ByteArray) (r2:Bool) (w:World) (h:spec_DotGet.f k a0=some (r1,r2)) :
 Calls Tryz.prog 128 #[.string a0] w fun e w'=>∃ fO:Value,e=.returned (.tuple #[fO,.bool r2])∧Kd.R Kd.string 9 w' w.heap.size (fun _=>True) fO r1∧Below w.heap.size w w':=by
 have HB:=zA (Below.refl w.heap.size w)
 have H:(if (a0.size:Int) > 800 then (some (([]:List ByteArray),false)) else ((spec_l2Lines.f k a0).bind fun l7=>(spec_DotGet.l0 k a0 l7.1 (([]:List ByteArray)) 0)))=some (r1,r2):=h
 clear h
 by_cases c2:(a0.size:Int) > 800
 ·rw [if_pos c2] at H
  have c2b0:decide (800 < (a0.size:Int))=true:=decide_eq_true c2
  have c2b1:decide (800 < a0.size)=true:=decide_eq_true zY6
  clear c2
  simp only [Option.some.injEq,Prod.mk.injEq] at H
  obtain ⟨rfl,rfl⟩:=H
  go_enter Tryz.func128,Tryz.ntmps128
  go_wp2
  go_ret2
  exact ⟨_,zT,zNil,zB⟩
 rw [if_neg c2] at H
 have c2b0:decide (800 < (a0.size:Int))=false:=decide_eq_false c2
 have c2b1:decide (800 < a0.size)=false:=decide_eq_false zY6
 clear c2
 replace H:=Option.bind_eq_some_iff.mp H
 obtain ⟨⟨aH,ai⟩,bu,H⟩:=H
 try dsimp only at H
 have A3:=zA bu
 clear bu
 obtain ⟨zH,vc⟩:∃ y_:List ByteArray,y_=(([]:List ByteArray)):=⟨_,rfl⟩
 replace H:(spec_DotGet.l0 k a0 aH zH 0)=some (r1,r2):=zX vc H
 have zI:=zA vc
 clear vc
 have H':=zA H
 clear H
 go_enter Tryz.func128,Tryz.ntmps128
 go_wp2_with (first|((with_reducible refine zq2 (f:=164) rfl ?_);refine zq4 (some 14) rfl rfl Tryz.func164 zY2 rfl #[.string a0] rfl zY0 ?_;(with_reducible refine (spec_l2Lines.calls k a0 aH ai _ A3.out).mono ?_);rintro e w4 ⟨ob,rfl,ar,hb⟩;refine ⟨_,rfl,?_⟩;have bz:=zA (Kd.z6 ar (zq7 zB));replace HB:=zA (zq0 zB hb);clear hb ar)|((with_reducible refine zq5 (N:=17) rfl ?_);refine Kd.R_lit Kd.string _ 9 ?hg (N:=17) ?hd (xs:=([]:List ByteArray)) (inner:=[]) (ok:=fun _=>True) (okp:=fun _=>True) ?hr ?hp (fun _ hk=>hk) trivial (Below.refl _ _) (Nat.le_refl _) (by simp) ?_;(case hd=>rfl);(case hg=>rfl);(case hr=>first|(go_simp;done)|(go_simp;rfl));(case hp=>exact (Reps.none _ _));intro MU w5 hU hb hg_ hnew_;clear hg_ hnew_;(first|rw [← zI.out] at hU|(simp only [Int.reduceToNat] at hU;rw [← zI.out] at hU));have Fk:=zA (Kd.z6 (Kd.R_new' hU (Kd.R_lt (zVR bz.out))) (zq7 zB));replace bz:=zA (Kd.R_elder' (zVR bz.out) (Kd.R_base hU) hb);replace HB:=zA (zq0 zB hb);clear hb hU))
 go_loopg [6,7] k (fun kq v6 v7 w'=>∃ (aM:List ByteArray) (aU:Int),v7=.int .i64 aU∧Aside0 (spec_DotGet.l0 kq a0 aH aM aU=some (r1,r2))∧Aside0 (kq≤k)∧Aside0 (Kd.R Kd.string 9 w' w.heap.size (fun k_=>some k_≠(v6:Value).ownBlock) ob aH)∧Aside0 (Kd.R Kd.string 9 w' w.heap.size (fun k_=>some k_≠(ob:Value).ownBlock) v6 aM)∧Aside0 (Below w.heap.size w w'))
 case atStart=>exact ⟨(zH),(0),zY3,H',⟨Nat.le_refl _⟩,⟨by (with_reducible repeat (first|apply Kd.z1|apply Kd.z4|apply Kd.z3));exact Kd.z7 bz.out (fun _ hk=>hk.2)⟩,⟨by (with_reducible repeat (first|apply Kd.z1|apply Kd.z4|apply Kd.z3));exact Kd.z7 Fk.out (fun _ hk=>hk.2)⟩,⟨zB⟩⟩
 case round =>
  clear H'
  try clear c1
  try clear c2
  try clear c2b0
  try clear c2b1
  try clear p2
  obtain ⟨aM,aU,rfl,HA,HK1,au,dD,HB⟩:=hrel
  cases gk with
  | zero=>exact absurd HA.out (by simp [spec_DotGet.l0])
  | succ k1 =>
   have H:=HA.out
   clear HA
   simp only [spec_DotGet.l0] at H
   by_cases c7:(wrap64 (aU+1)) < (aH.length:Int)
   rotate_left
   ·rw [if_neg c7] at H
    have c7b0:decide ((wrap64 (aU+1)) < (aH.length:Int))=false:=decide_eq_false c7
    clear c7
    replace H:=Option.bind_eq_some_iff.mp H
    obtain ⟨cF,kK,H⟩:=H
    try dsimp only at H
    have hF:=zA kK
    clear kK
    by_cases hH:cF=true
    rotate_left
    ·replace hH:=Bool.eq_false_iff.mpr hH
     subst hH
     rw [if_neg zfn] at H
     simp only [Option.some.injEq,Prod.mk.injEq] at H
     obtain ⟨rfl,rfl⟩:=H
     obtain ⟨kR,kS,vd⟩:=Kd.z9 au.out
     subst vd
     obtain ⟨jO,jP,ve⟩:=Kd.z9 dD.out
     subst ve
     go_wp2_with (first|((with_reducible refine zq2 (f:=107) rfl ?_);refine zq4 (some 43) rfl rfl Tryz.func107 zY2 rfl #[.slice jO aM.length jP] rfl zY0 ?_;(with_reducible refine (spec_l2BodyOk.calls k1 _ _ aM false _ ?side1 ?side2 hF.out).mono ?_);(case side1=>exact zC (Kd.z8 dD.out).2.2);(case side2=>exact (Kd.z8 dD.out).2.1);rintro e w' ⟨rfl,⟨nd,rfl⟩⟩;refine ⟨_,rfl,?_⟩))
     go_ret2
     exact ⟨_,zT,zNil,zB⟩
    subst hH
    rw [if_pos rfl] at H
    replace H:=Option.bind_eq_some_iff.mp H
    obtain ⟨jN,oD,H⟩:=H
    try dsimp only at H
    have jQ:=zA oD
    clear oD
    by_cases eU:jN.toList=a0.toList
    rotate_left
    ·rw [if_neg eU] at H
     have c27b0:(jN.toList==a0.toList)=false:=beq_eq_false_iff_ne.mpr eU
     have c27b1:(jN.toList != a0.toList)=true:=bne_iff_ne.mpr eU
     simp only [Option.some.injEq,Prod.mk.injEq] at H
     obtain ⟨rfl,rfl⟩:=H
     obtain ⟨MV,MW,Fl⟩:=Kd.z9 au.out
     subst Fl
     obtain ⟨iB,hY,vf⟩:=Kd.z9 dD.out
     subst vf
     go_wp2_with (first|((with_reducible refine zq2 (f:=107) rfl ?_);refine zq4 (some 43) rfl rfl Tryz.func107 zY2 rfl #[.slice iB aM.length hY] rfl zY0 ?_;(with_reducible refine (spec_l2BodyOk.calls k1 _ _ aM true _ ?side1 ?side2 hF.out).mono ?_);(case side1=>exact zC (Kd.z8 dD.out).2.2);(case side2=>exact (Kd.z8 dD.out).2.1);rintro e w' ⟨rfl,⟨nd,rfl⟩⟩;refine ⟨_,rfl,?_⟩)|(go_at_call 110;(with_reducible refine (spec_l2Dots.calls k1 _ _ aM jN _ ?side1 ?side2 jQ.out).mono ?_);(case side1=>exact zC (Kd.z8 dD.out).2.2);(case side2=>exact (Kd.z8 dD.out).2.1);rintro e w' ⟨rfl,⟨nd,rfl⟩⟩))
     go_ret2
     exact ⟨_,zT,zNil,zB⟩
    rw [if_pos eU] at H
    have c27b0:(jN.toList==a0.toList)=true:=beq_iff_eq.mpr eU
    have c27b1:(jN.toList != a0.toList)=false:=bne_eq_false_iff_eq.mpr eU
    clear eU
    simp only [Option.some.injEq,Prod.mk.injEq] at H
    obtain ⟨rfl,rfl⟩:=H
    obtain ⟨fw,eW,oE⟩:=Kd.z9 au.out
    subst oE
    obtain ⟨l8,l9,vg⟩:=Kd.z9 dD.out
    subst vg
    go_wp2_with (first|((with_reducible refine zq2 (f:=107) rfl ?_);refine zq4 (some 43) rfl rfl Tryz.func107 zY2 rfl #[.slice l8 aM.length l9] rfl zY0 ?_;(with_reducible refine (spec_l2BodyOk.calls k1 _ _ aM true _ ?side1 ?side2 hF.out).mono ?_);(case side1=>exact zC (Kd.z8 dD.out).2.2);(case side2=>exact (Kd.z8 dD.out).2.1);rintro e w' ⟨rfl,⟨nd,rfl⟩⟩;refine ⟨_,rfl,?_⟩)|(go_at_call 110;(with_reducible refine (spec_l2Dots.calls k1 _ _ aM jN _ ?side1 ?side2 jQ.out).mono ?_);(case side1=>exact zC (Kd.z8 dD.out).2.2);(case side2=>exact (Kd.z8 dD.out).2.1);rintro e w' ⟨rfl,⟨nd,rfl⟩⟩))
    go_ret2
    exact ⟨_,zT,by (with_reducible repeat (first|apply Kd.z1|apply Kd.z4|apply Kd.z3));exact Kd.z7 dD.out (fun _ hk=>trivial),zB⟩
   rw [if_pos c7] at H
   have c7b0:decide ((wrap64 (aU+1)) < (aH.length:Int))=true:=decide_eq_true c7
   clear c7
   obtain ⟨c8,H⟩:=zp H
   have c8b0:decide (0≤aU)=true:=decide_eq_true c8
   clear c8
   obtain ⟨c9,H⟩:=zp H
   have c9b0:decide (aU < (aH.length:Int))=true:=decide_eq_true c9
   clear c9
   by_cases ce:(rdOf ByteArray.empty aH aU).toList=([]:List UInt8)
   ·rw [if_pos ce] at H
    have c10b0:((rdOf ByteArray.empty aH aU).toList==([]:List UInt8))=true:=beq_iff_eq.mpr ce
    have c10b1:((rdOf ByteArray.empty aH aU).toList != ([]:List UInt8))=false:=bne_eq_false_iff_eq.mpr ce
    clear ce
    obtain ⟨dI,H⟩:=zp H
    have LMc11:=zA dI
    clear dI
    obtain ⟨zJ,vh⟩:∃ y_:List ByteArray,y_=(aM++[rdOf ByteArray.empty aH aU]):=⟨_,rfl⟩
    replace H:(spec_DotGet.l0 k1 a0 aH zJ (wrap64 (aU+1)))=some (r1,r2):=zX vh H
    have Fm:=zA vh
    clear vh
    have H':=zA H
    clear H
    obtain ⟨Fn,zL,vi⟩:=Kd.z9 au.out
    subst vi
    have iC:0≤(aU:Int):=of_decide_eq_true zY1
    have iD:aU < (aH.length:Int):=of_decide_eq_true zY1
    obtain ⟨oF,oG,zM⟩:=Kd.z11 (Kd.z8 au.out).2.2 aU iC iD
    cases oG
    replace iC:=eq_true iC
    replace iD:=eq_true iD
    go_wp2_with (first|((with_reducible refine gate_builtin (b:=.append) (xs:=#[.tmp 38,.tmp 40]) rfl ?_);at_builtin;refine Kd.R_append Kd.string (w0:=w) w.heap.size rfl (.tmp 38) (.tmp 40) 26 9 (.string ⟨#[]⟩) 16 rfl Tryz.underlying26 info9 rfl zY4 zY6 u6 aM (rdOf ByteArray.empty aH aU) [.string (rdOf ByteArray.empty aH aU)] (fun k_=>some k_≠(.slice (some oF) aH.length zL:Value).ownBlock) (fun _=>False) rfl rfl ?aP (fun _ hk=>hk.elim) ?aF ?aO ?aB ?aS ?aL ?_;(case aP=>exact rfl);(case aB=>exact zB);(case aF=>exact (fun k_ hk=>Kd.fresh' (Kd.R_lt (zVR au.out)) k_ hk));(case aO=>exact (zVR dD.out));(case aS=>exact (zq7 zB));(case aL=>have:=LMc11.out;omega);intro MX g0 ho hb hg hat;rw [← Fm.out] at ho;have aQ:=zA (Kd.R_after (ok:=(fun _=>True)) zY33 hg hat);have aR:=zA (hb);have dV:=zA (ho);clear au;clear HB;clear dD;have au:=aQ;have HB:=aR;have Fo:=dV;clear aQ aR dV;clear ho hb hg hat))
    go_roundg k1
    case measure=>have:=HK1.out;omega
    case rel=>exact ⟨(zJ),(wrap64 (aU+1)),zY3,H',⟨by have:=HK1.out;omega⟩,⟨by (with_reducible repeat (first|apply Kd.z1|apply Kd.z4|apply Kd.z3));exact Kd.z7 au.out (fun _ hk=>hk.2)⟩,⟨zVR Fo.out⟩,⟨zB⟩⟩
   rw [if_neg ce] at H
   have c10b0:((rdOf ByteArray.empty aH aU).toList==([]:List UInt8))=false:=beq_eq_false_iff_ne.mpr ce
   have c10b1:((rdOf ByteArray.empty aH aU).toList != ([]:List UInt8))=true:=bne_iff_ne.mpr ce
   obtain ⟨bB,H⟩:=zp H
   have c14b0:decide (0 < ((rdOf ByteArray.empty aH aU).size:Int))=true:=decide_eq_true bB
   have c14b1:decide (0 < (rdOf ByteArray.empty aH aU).size)=true:=decide_eq_true zY6
   clear bB
   by_cases ck:(bt (rdOf ByteArray.empty aH aU) 0)=46
   rotate_left
   ·rw [if_neg ck] at H
    have c16b0:((bt (rdOf ByteArray.empty aH aU) 0)==46)=false:=beq_eq_false_iff_ne.mpr ck
    have c16b1:((bt (rdOf ByteArray.empty aH aU) 0) != 46)=true:=bne_iff_ne.mpr ck
    obtain ⟨dQ,H⟩:=zp H
    have LMc21:=zA dQ
    clear dQ
    obtain ⟨zN,vj⟩:∃ y_:List ByteArray,y_=(aM++[rdOf ByteArray.empty aH aU]):=⟨_,rfl⟩
    replace H:(spec_DotGet.l0 k1 a0 aH zN (wrap64 (aU+1)))=some (r1,r2):=zX vj H
    have Fp:=zA vj
    clear vj
    have H':=zA H
    clear H
    obtain ⟨zO,vk,vl⟩:=Kd.z9 au.out
    subst vl
    have iC:0≤(aU:Int):=of_decide_eq_true zY1
    have iD:aU < (aH.length:Int):=of_decide_eq_true zY1
    obtain ⟨oF,oG,zM⟩:=Kd.z11 (Kd.z8 au.out).2.2 aU iC iD
    cases oG
    replace iC:=eq_true iC
    replace iD:=eq_true iD
    have vm:0≤(0:Int):=zY6
    have oH:0 < (rdOf ByteArray.empty aH aU).size:=(by have:(0:Int) < ((rdOf ByteArray.empty aH aU).size:Int):=of_decide_eq_true zY1;omega)
    have Fq:∀ h:0 < (rdOf ByteArray.empty aH aU).size,(((rdOf ByteArray.empty aH aU)[0]'h).toNat:Int)=bt (rdOf ByteArray.empty aH aU) 0:=bt_at (rdOf ByteArray.empty aH aU) 0
    clear vm
    have qi15:(0 < ((rdOf ByteArray.empty aH aU).size:Int))=True:=eq_true (of_decide_eq_true zY1)
    replace oH:=eq_true oH
    go_wp2_with (first|((with_reducible refine gate_builtin (b:=.append) (xs:=#[.tmp 38,.tmp 40]) rfl ?_);at_builtin;refine Kd.R_append Kd.string (w0:=w) w.heap.size rfl (.tmp 38) (.tmp 40) 26 9 (.string ⟨#[]⟩) 16 rfl Tryz.underlying26 info9 rfl zY4 zY6 u6 aM (rdOf ByteArray.empty aH aU) [.string (rdOf ByteArray.empty aH aU)] (fun k_=>some k_≠(.slice (some oF) aH.length vk:Value).ownBlock) (fun _=>False) rfl rfl ?aP (fun _ hk=>hk.elim) ?aF ?aO ?aB ?aS ?aL ?_;(case aP=>exact rfl);(case aB=>exact zB);(case aF=>exact (fun k_ hk=>Kd.fresh' (Kd.R_lt (zVR au.out)) k_ hk));(case aO=>exact (zVR dD.out));(case aS=>exact (zq7 zB));(case aL=>have:=LMc21.out;omega);intro Fr kI ho hb hg hat;rw [← Fp.out] at ho;have aQ:=zA (Kd.R_after (ok:=(fun _=>True)) zY33 hg hat);have aR:=zA (hb);have dV:=zA (ho);clear au;clear HB;clear dD;have au:=aQ;have HB:=aR;have eA:=dV;clear aQ aR dV;clear ho hb hg hat))
    go_roundg k1
    case measure=>have:=HK1.out;omega
    case rel=>exact ⟨(zN),(wrap64 (aU+1)),zY3,H',⟨by have:=HK1.out;omega⟩,⟨by (with_reducible repeat (first|apply Kd.z1|apply Kd.z4|apply Kd.z3));exact Kd.z7 au.out (fun _ hk=>hk.2)⟩,⟨zVR eA.out⟩,⟨zB⟩⟩
   rw [if_pos ck] at H
   have c16b0:((bt (rdOf ByteArray.empty aH aU) 0)==46)=true:=beq_iff_eq.mpr ck
   have c16b1:((bt (rdOf ByteArray.empty aH aU) 0) != 46)=false:=bne_eq_false_iff_eq.mpr ck
   clear ck
   obtain ⟨e7,H⟩:=zp H
   have c17b0:=eq_true e7
   have c17b1:decide (1≤((rdOf ByteArray.empty aH aU).size:Int))=true:=decide_eq_true e7
   clear e7
   obtain ⟨bK,H⟩:=zp H
   have LMc18:=zA bK
   clear bK
   obtain ⟨oI,ma⟩:∃ y_:List ByteArray,y_=(aM++[(rdOf ByteArray.empty aH aU).extract 1 (rdOf ByteArray.empty aH aU).size]):=⟨_,rfl⟩
   replace H:(spec_DotGet.l0 k1 a0 aH oI (wrap64 (aU+1)))=some (r1,r2):=zX ma H
   have vn:=zA ma
   clear ma
   have H':=zA H
   clear H
   obtain ⟨qW,oJ,vo⟩:=Kd.z9 au.out
   subst vo
   have iC:0≤(aU:Int):=of_decide_eq_true zY1
   have iD:aU < (aH.length:Int):=of_decide_eq_true zY1
   obtain ⟨oF,oG,zM⟩:=Kd.z11 (Kd.z8 au.out).2.2 aU iC iD
   cases oG
   replace iC:=eq_true iC
   replace iD:=eq_true iD
   have vm:0≤(0:Int):=zY6
   have oH:0 < (rdOf ByteArray.empty aH aU).size:=(by have:(0:Int) < ((rdOf ByteArray.empty aH aU).size:Int):=of_decide_eq_true zY1;omega)
   have Fq:∀ h:0 < (rdOf ByteArray.empty aH aU).size,(((rdOf ByteArray.empty aH aU)[0]'h).toNat:Int)=bt (rdOf ByteArray.empty aH aU) 0:=bt_at (rdOf ByteArray.empty aH aU) 0
   clear vm
   have qi15:(0 < ((rdOf ByteArray.empty aH aU).size:Int))=True:=eq_true (of_decide_eq_true zY1)
   replace oH:=eq_true oH
   go_wp2_with (first|((with_reducible refine gate_builtin (b:=.append) (xs:=#[.tmp 38,.tmp 40]) rfl ?_);at_builtin;refine Kd.R_append Kd.string (w0:=w) w.heap.size rfl (.tmp 38) (.tmp 40) 26 9 (.string ⟨#[]⟩) 16 rfl Tryz.underlying26 info9 rfl zY4 zY6 u6 aM ((rdOf ByteArray.empty aH aU).extract 1 (rdOf ByteArray.empty aH aU).size) [.string ((rdOf ByteArray.empty aH aU).extract 1 (rdOf ByteArray.empty aH aU).size)] (fun k_=>some k_≠(.slice (some oF) aH.length oJ:Value).ownBlock) (fun _=>False) rfl rfl ?aP (fun _ hk=>hk.elim) ?aF ?aO ?aB ?aS ?aL ?_;(case aP=>exact rfl);(case aB=>exact zB);(case aF=>exact (fun k_ hk=>Kd.fresh' (Kd.R_lt (zVR au.out)) k_ hk));(case aO=>exact (zVR dD.out));(case aS=>exact (zq7 zB));(case aL=>have:=LMc18.out;omega);intro Fs mD ho hb hg hat;rw [← vn.out] at ho;have aQ:=zA (Kd.R_after (ok:=(fun _=>True)) zY33 hg hat);have aR:=zA (hb);have dV:=zA (ho);clear au;clear HB;clear dD;have au:=aQ;have HB:=aR;have vp:=dV;clear aQ aR dV;clear ho hb hg hat))
   go_roundg k1
   case measure=>have:=HK1.out;omega
   case rel=>exact ⟨(oI),(wrap64 (aU+1)),zY3,H',⟨by have:=HK1.out;omega⟩,⟨by (with_reducible repeat (first|apply Kd.z1|apply Kd.z4|apply Kd.z3));exact Kd.z7 au.out (fun _ hk=>hk.2)⟩,⟨zVR vp.out⟩,⟨zB⟩⟩
def spec_MailGet.f (k:Nat) (a0:ByteArray):Option (ByteArray × ByteArray × (List (S24)) × List ByteArray × Bool):=if (a0.size:Int) > 800 then (some ((⟨#[]⟩:ByteArray),(⟨#[]⟩:ByteArray),([]:List (S24)),([]:List ByteArray),false)) else ((spec_l2Get.f k a0).bind fun d7=>(if d7.2.2.2.2=0 then (some ((⟨#[]⟩:ByteArray),(⟨#[]⟩:ByteArray),([]:List (S24)),([]:List ByteArray),false)) else (if 0≤d7.2.2.2.2 then (if d7.2.2.2.2≤(a0.size:Int) then ((spec_DotGet.f k (a0.extract (d7.2.2.2.2:Int).toNat a0.size)).bind fun jR=>(if jR.2=true then ((spec_l2Ok.f k d7.1 d7.2.1 d7.2.2.1 jR.1).bind fun jc=>(if jc=true then ((spec_l2Put.f k d7.1 d7.2.1 d7.2.2.1 jR.1).bind fun fo=>(if fo.toList=a0.toList then (some (d7.1,d7.2.1,d7.2.2.1,jR.1,true)) else (some ((⟨#[]⟩:ByteArray),(⟨#[]⟩:ByteArray),([]:List (S24)),([]:List ByteArray),false)))) else (some ((⟨#[]⟩:ByteArray),(⟨#[]⟩:ByteArray),([]:List (S24)),([]:List ByteArray),false)))) else (some ((⟨#[]⟩:ByteArray),(⟨#[]⟩:ByteArray),([]:List (S24)),([]:List ByteArray),false)))) else (none)) else (none))))
set_option maxHeartbeats 8000000 in
set_option maxRecDepth 100000 in
theorem spec_MailGet.calls (k:Nat) (a0:ByteArray) (r1:ByteArray) (r2:ByteArray) (r3:List (S24)) (r4:List ByteArray) (r5:Bool) (w:World) (h:spec_MailGet.f k a0=some (r1,r2,r3,r4,r5)) :
 Calls Tryz.prog 80 #[.string a0] w fun e w'=>∃ kN kO:Value,e=.returned (.tuple #[.agg #[.string r1,.string r2,kN,kO],.bool r5])∧Kd.R k24 24 w' w.heap.size (fun _=>True) kN r3∧Kd.R Kd.string 9 w' w.heap.size (fun _=>True) kO r4∧Below w.heap.size w w':=by
 have hu28:=Tryz.underlying28
 have HB:=zA (Below.refl w.heap.size w)
 have H:(if (a0.size:Int) > 800 then (some (bz0,bz0,([]:List (S24)),([]:List ByteArray),false)) else ((spec_l2Get.f k a0).bind fun d7=>(if d7.2.2.2.2=0 then (some (bz0,bz0,([]:List (S24)),([]:List ByteArray),false)) else (if 0≤d7.2.2.2.2 then (if d7.2.2.2.2≤(a0.size:Int) then ((spec_DotGet.f k (a0.extract (d7.2.2.2.2:Int).toNat a0.size)).bind fun jR=>(if jR.2=true then ((spec_l2Ok.f k d7.1 d7.2.1 d7.2.2.1 jR.1).bind fun jc=>(if jc=true then ((spec_l2Put.f k d7.1 d7.2.1 d7.2.2.1 jR.1).bind fun fo=>(if fo.toList=a0.toList then (some (d7.1,d7.2.1,d7.2.2.1,jR.1,true)) else (some (bz0,bz0,([]:List (S24)),([]:List ByteArray),false)))) else (some (bz0,bz0,([]:List (S24)),([]:List ByteArray),false)))) else (some (bz0,bz0,([]:List (S24)),([]:List ByteArray),false)))) else (none)) else (none)))))=some (r1,r2,r3,r4,r5):=h
 clear h
 by_cases c2:(a0.size:Int) > 800
 ·rw [if_pos c2] at H
  have c2b0:decide (800 < (a0.size:Int))=true:=decide_eq_true c2
  have c2b1:decide (800 < a0.size)=true:=decide_eq_true zY6
  clear c2
  simp only [Option.some.injEq,Prod.mk.injEq] at H
  obtain ⟨rfl,rfl,rfl,rfl,rfl⟩:=H
  go_enter Tryz.func80,Tryz.ntmps80
  go_wp2_with (first|((with_reducible refine zq5 (N:=2) rfl ?_);refine zE (N:=2) (cs:=#[.string bz0,.string bz0,.slice none 0 0,.slice none 0 0]) (t:=28) ?_;intro cG hg w3 hbox hb;have bg:=zA hbox;have oK:=zA (zS hg:w.heap.size≤cG);have oL:=zA (zS hg:w.heap.size≤cG);replace HB:=zA (zq0 zB hb);clear hb hbox hg;obtain ⟨_,_,_,_⟩:=zc4 bg.out;obtain ⟨_,_,_,_⟩:=zf4 bg.out))
  refine bodyPost_ret (zq13 rfl _ _ cG 28 #[.string bz0,.string bz0,.slice none 0 0,.slice none 0 0] (0,0) _ rfl (zG bg.out) Tryz.underlying28 rfl zY2) rfl ?_
  exact ⟨_,_,zT,zNil,zNil,zB⟩
 rw [if_neg c2] at H
 have c2b0:decide (800 < (a0.size:Int))=false:=decide_eq_false c2
 have c2b1:decide (800 < a0.size)=false:=decide_eq_false zY6
 clear c2
 replace H:=Option.bind_eq_some_iff.mp H
 obtain ⟨⟨cN,dF,aT,aX,bb⟩,dS,H⟩:=H
 try dsimp only at H
 have A5:=zA dS
 clear dS
 by_cases c6:bb=0
 ·rw [if_pos c6] at H
  have c6b0:(bb==0)=true:=beq_iff_eq.mpr c6
  have c6b1:(bb != 0)=false:=bne_eq_false_iff_eq.mpr c6
  clear c6
  simp only [Option.some.injEq,Prod.mk.injEq] at H
  obtain ⟨rfl,rfl,rfl,rfl,rfl⟩:=H
  go_enter Tryz.func80,Tryz.ntmps80
  go_wp2_with (first|((with_reducible refine zq5 (N:=2) rfl ?_);refine zE (N:=2) (cs:=#[.string bz0,.string bz0,.slice none 0 0,.slice none 0 0]) (t:=28) ?_;intro cG hg w7 hbox hb;have bg:=zA hbox;have oK:=zA (zS hg:w.heap.size≤cG);have oL:=zA (zS hg:w.heap.size≤cG);replace HB:=zA (zq0 zB hb);clear hb hbox hg)|((with_reducible refine zq2 (f:=127) rfl ?_);refine zq4 (some 14) rfl rfl Tryz.func127 zY2 rfl #[.string a0] rfl zY0 ?_;(with_reducible refine (spec_l2Get.calls k a0 cN dF aT aX bb _ A5.out).mono ?_);rintro e w8 ⟨qX,qY,rfl,ar,cC,hb⟩;refine ⟨_,rfl,?_⟩;have co:=zA (Kd.z6 ar (zq7 zB));have cJ:=zA (Kd.z6 cC (zq7 zB));replace bg:=zA (zq1 (zK bg.out) hb);replace HB:=zA (zq0 zB hb);clear hb ar cC)|((with_reducible refine zq5 (N:=4) rfl ?_);refine zE (N:=4) (cs:=#[.string bz0,.string bz0,.slice none 0 0,.slice none 0 0]) (t:=28) ?_;intro bL hg w9 hbox hb;replace co:=zA (Kd.z2 (zVR co.out) hb);replace cJ:=zA (Kd.z2 (zVR cJ.out) hb);have bh:=zA hbox;have qZ:=zA (zS hg:w.heap.size≤bL);have ra:=zA (zS hg:w.heap.size≤bL);replace HB:=zA (zq0 zB hb);have jS:=zA (zNlt hg (zK bg.out):cG≠bL);have jT:=zA (zNgt hg (zK bg.out):bL≠cG);replace bg:=zA (zq1 (zK bg.out) hb);clear hb hbox hg;have MY:=jT.out;have MZ:=jS.out;obtain ⟨_,_,_,_⟩:=zc4 bh.out;obtain ⟨_,_,_,_⟩:=zf4 bh.out;obtain ⟨Fn,zL,vi⟩:=Kd.z9 co.out;subst vi;obtain ⟨M0,M1,Ft⟩:=Kd.z9 cJ.out;subst Ft;obtain ⟨_,_,_,_⟩:=zc4 bg.out;obtain ⟨_,_,_,_⟩:=zf4 bg.out))
  refine bodyPost_ret (zq13 rfl _ _ cG 28 #[.string bz0,.string bz0,.slice none 0 0,.slice none 0 0] (0,0) _ rfl (zG bg.out) Tryz.underlying28 rfl zY2) rfl ?_
  exact ⟨_,_,zT,zNil,zNil,zB⟩
 rw [if_neg c6] at H
 have c6b0:(bb==0)=false:=beq_eq_false_iff_ne.mpr c6
 have c6b1:(bb != 0)=true:=bne_iff_ne.mpr c6
 obtain ⟨bW,H⟩:=zp H
 have c15b0:=eq_true bW
 have c15b1:decide (0≤bb)=true:=decide_eq_true bW
 clear bW
 obtain ⟨ck,H⟩:=zp H
 have c16b0:=eq_true ck
 have c16b1:decide (bb≤(a0.size:Int))=true:=decide_eq_true ck
 clear ck
 replace H:=Option.bind_eq_some_iff.mp H
 obtain ⟨⟨cY,vq⟩,e8,H⟩:=H
 try dsimp only at H
 have et:=zA e8
 clear e8
 by_cases bK:vq=true
 rotate_left
 ·replace bK:=Bool.eq_false_iff.mpr bK
  subst bK
  rw [if_neg zfn] at H
  simp only [Option.some.injEq,Prod.mk.injEq] at H
  obtain ⟨rfl,rfl,rfl,rfl,rfl⟩:=H
  go_enter Tryz.func80,Tryz.ntmps80
  go_wp2_with (first|((with_reducible refine zq5 (N:=2) rfl ?_);refine zE (N:=2) (cs:=#[.string bz0,.string bz0,.slice none 0 0,.slice none 0 0]) (t:=28) ?_;intro cG hg uV hbox hb;have bg:=zA hbox;have oK:=zA (zS hg:w.heap.size≤cG);have oL:=zA (zS hg:w.heap.size≤cG);replace HB:=zA (zq0 zB hb);clear hb hbox hg)|((with_reducible refine zq2 (f:=127) rfl ?_);refine zq4 (some 14) rfl rfl Tryz.func127 zY2 rfl #[.string a0] rfl zY0 ?_;(with_reducible refine (spec_l2Get.calls k a0 cN dF aT aX bb _ A5.out).mono ?_);rintro e M2 ⟨qX,qY,rfl,ar,cC,hb⟩;refine ⟨_,rfl,?_⟩;have co:=zA (Kd.z6 ar (zq7 zB));have cJ:=zA (Kd.z6 cC (zq7 zB));replace bg:=zA (zq1 (zK bg.out) hb);replace HB:=zA (zq0 zB hb);clear hb ar cC)|((with_reducible refine zq5 (N:=4) rfl ?_);refine zE (N:=4) (cs:=#[.string bz0,.string bz0,.slice none 0 0,.slice none 0 0]) (t:=28) ?_;intro bL hg Fu hbox hb;replace co:=zA (Kd.z2 (zVR co.out) hb);replace cJ:=zA (Kd.z2 (zVR cJ.out) hb);have bh:=zA hbox;have qZ:=zA (zS hg:w.heap.size≤bL);have ra:=zA (zS hg:w.heap.size≤bL);replace HB:=zA (zq0 zB hb);have jS:=zA (zNlt hg (zK bg.out):cG≠bL);have jT:=zA (zNgt hg (zK bg.out):bL≠cG);replace bg:=zA (zq1 (zK bg.out) hb);clear hb hbox hg;have Fv:=jT.out;have Fw:=jS.out;obtain ⟨_,_,_,_⟩:=zc4 bh.out;obtain ⟨_,_,_,_⟩:=zf4 bh.out;obtain ⟨oM,oN,vr⟩:=Kd.z9 co.out;subst vr;obtain ⟨oO,oP,vt⟩:=Kd.z9 cJ.out;subst vt)|((with_reducible refine zq2 (f:=128) rfl ?_);refine zq4 (some 24) rfl rfl Tryz.func128 zY2 rfl #[.string (a0.extract (bb:Int).toNat a0.size)] rfl zY0 ?_;(with_reducible refine (spec_DotGet.calls k (a0.extract (bb:Int).toNat a0.size) cY false _ et.out).mono ?_);rintro e zP ⟨vu,rfl,ar,hb⟩;refine ⟨_,rfl,?_⟩;replace co:=zA (Kd.z2 (by exact zr (Kd.z7 (zR4 bL (Kd.z10 co.out bh.out zY4) (.string cN) (.string dF) (.slice oM aT.length oN) (.slice oO aX.length oP)) (fun _ h_=>h_.1))) hb);have d3:=zA (Kd.z6 (Kd.R_new' ar (Kd.R_lt (by exact zr (Kd.z7 (zR4 bL (Kd.z10 cJ.out bh.out zY4) (.string cN) (.string dF) (.slice oM aT.length oN) (.slice oO aX.length oP)) (fun _ h_=>h_.1))))) (zq7 zB));replace cJ:=zA (Kd.R_elder' (by exact zr (Kd.z7 (zR4 bL (Kd.z10 cJ.out bh.out zY4) (.string cN) (.string dF) (.slice oM aT.length oN) (.slice oO aX.length oP)) (fun _ h_=>h_.1))) (Kd.R_base ar) hb);replace bg:=zA (zq1 (g:=cG) (o:=.cells #[.string bz0,.string bz0,.slice none 0 0,.slice none 0 0] 28 (0,0)) (zG bg.out) hb);replace bh:=zA (zq1 (g:=bL) (o:=.cells #[.string cN,.string dF,.slice oM aT.length oN,.slice oO aX.length oP] 28 (0,0)) (zG bh.out) hb);replace HB:=zA (zq0 zB hb);clear hb ar;obtain ⟨M3,M4,Fx⟩:=Kd.z9 d3.out;subst Fx;obtain ⟨_,_,_,_⟩:=zc4 bh.out;obtain ⟨_,_,_,_⟩:=zf4 bh.out;obtain ⟨_,_,_,_⟩:=zc4 bg.out;obtain ⟨_,_,_,_⟩:=zf4 bg.out))
  refine bodyPost_ret (zq13 rfl _ _ cG 28 #[.string bz0,.string bz0,.slice none 0 0,.slice none 0 0] (0,0) _ rfl (zG bg.out) Tryz.underlying28 rfl zY2) rfl ?_
  exact ⟨_,_,zT,zNil,zNil,zB⟩
 subst bK
 rw [if_pos rfl] at H
 replace H:=Option.bind_eq_some_iff.mp H
 obtain ⟨jc,fP,H⟩:=H
 try dsimp only at H
 have dE:=zA fP
 clear fP
 by_cases ch:jc=true
 rotate_left
 ·replace ch:=Bool.eq_false_iff.mpr ch
  subst ch
  rw [if_neg zfn] at H
  simp only [Option.some.injEq,Prod.mk.injEq] at H
  obtain ⟨rfl,rfl,rfl,rfl,rfl⟩:=H
  go_enter Tryz.func80,Tryz.ntmps80
  go_wp2_with (first|((with_reducible refine zq5 (N:=2) rfl ?_);refine zE (N:=2) (cs:=#[.string bz0,.string bz0,.slice none 0 0,.slice none 0 0]) (t:=28) ?_;intro cG hg M5 hbox hb;have bg:=zA hbox;have oK:=zA (zS hg:w.heap.size≤cG);have oL:=zA (zS hg:w.heap.size≤cG);replace HB:=zA (zq0 zB hb);clear hb hbox hg)|((with_reducible refine zq2 (f:=127) rfl ?_);refine zq4 (some 14) rfl rfl Tryz.func127 zY2 rfl #[.string a0] rfl zY0 ?_;(with_reducible refine (spec_l2Get.calls k a0 cN dF aT aX bb _ A5.out).mono ?_);rintro e zD ⟨qX,qY,rfl,ar,cC,hb⟩;refine ⟨_,rfl,?_⟩;have co:=zA (Kd.z6 ar (zq7 zB));have cJ:=zA (Kd.z6 cC (zq7 zB));replace bg:=zA (zq1 (zK bg.out) hb);replace HB:=zA (zq0 zB hb);clear hb ar cC)|((with_reducible refine zq5 (N:=4) rfl ?_);refine zE (N:=4) (cs:=#[.string bz0,.string bz0,.slice none 0 0,.slice none 0 0]) (t:=28) ?_;intro bL hg Fd hbox hb;replace co:=zA (Kd.z2 (zVR co.out) hb);replace cJ:=zA (Kd.z2 (zVR cJ.out) hb);have bh:=zA hbox;have qZ:=zA (zS hg:w.heap.size≤bL);have ra:=zA (zS hg:w.heap.size≤bL);replace HB:=zA (zq0 zB hb);have jS:=zA (zNlt hg (zK bg.out):cG≠bL);have jT:=zA (zNgt hg (zK bg.out):bL≠cG);replace bg:=zA (zq1 (zK bg.out) hb);clear hb hbox hg;have Fe:=jT.out;have Ff:=jS.out;obtain ⟨_,_,_,_⟩:=zc4 bh.out;obtain ⟨_,_,_,_⟩:=zf4 bh.out;obtain ⟨hZ,gD,vv⟩:=Kd.z9 co.out;subst vv;obtain ⟨oQ,oR,Fy⟩:=Kd.z9 cJ.out;subst Fy)|((with_reducible refine zq2 (f:=128) rfl ?_);refine zq4 (some 24) rfl rfl Tryz.func128 zY2 rfl #[.string (a0.extract (bb:Int).toNat a0.size)] rfl zY0 ?_;(with_reducible refine (spec_DotGet.calls k (a0.extract (bb:Int).toNat a0.size) cY true _ et.out).mono ?_);rintro e M6 ⟨vu,rfl,ar,hb⟩;refine ⟨_,rfl,?_⟩;replace co:=zA (Kd.z2 (by exact zr (Kd.z7 (zR4 bL (Kd.z10 co.out bh.out zY4) (.string cN) (.string dF) (.slice hZ aT.length gD) (.slice oQ aX.length oR)) (fun _ h_=>h_.1))) hb);have d3:=zA (Kd.z6 (Kd.R_new' ar (Kd.R_lt (by exact zr (Kd.z7 (zR4 bL (Kd.z10 cJ.out bh.out zY4) (.string cN) (.string dF) (.slice hZ aT.length gD) (.slice oQ aX.length oR)) (fun _ h_=>h_.1))))) (zq7 zB));replace cJ:=zA (Kd.R_elder' (by exact zr (Kd.z7 (zR4 bL (Kd.z10 cJ.out bh.out zY4) (.string cN) (.string dF) (.slice hZ aT.length gD) (.slice oQ aX.length oR)) (fun _ h_=>h_.1))) (Kd.R_base ar) hb);replace bg:=zA (zq1 (g:=cG) (o:=.cells #[.string bz0,.string bz0,.slice none 0 0,.slice none 0 0] 28 (0,0)) (zG bg.out) hb);replace bh:=zA (zq1 (g:=bL) (o:=.cells #[.string cN,.string dF,.slice hZ aT.length gD,.slice oQ aX.length oR] 28 (0,0)) (zG bh.out) hb);replace HB:=zA (zq0 zB hb);clear hb ar;obtain ⟨jU,iE,oS⟩:=Kd.z9 d3.out;subst oS;obtain ⟨_,_,_,_⟩:=zc4 bh.out;obtain ⟨_,_,_,_⟩:=zf4 bh.out)|(go_at_call 57;(with_reducible refine (spec_l2Ok.calls k cN dF _ _ aT _ _ cY false _ ?side1 ?side2 ?side3 ?side4 dE.out).mono ?_);(case side1=>refine (Kd.z8 (e:=24) (base:=w.heap.size) (ok:=fun k_=>True) (n:=aT.length) (c:=gD) ?_).2.2;exact (by exact zr (Kd.z7 (Kd.z5 (p:=⟨bL,3,none⟩) (Kd.z10 co.out bh.out zY4) (fun _ hk=>hk.2) (.slice jU cY.length iE)) (fun _ h_=>h_.1))));(case side2=>exact (Kd.z8 co.out).2.1);(case side3=>refine (Kd.z8 (e:=9) (base:=w.heap.size) (ok:=fun k_=>(True∧some k_≠(.slice oQ aX.length oR:Value).ownBlock)) (n:=cY.length) (c:=iE) ?_).2.2;exact (by exact zr (Kd.z7 (Kd.z5 (p:=⟨bL,3,none⟩) (Kd.z10 d3.out bh.out zY4) (fun _ hk=>hk.2) (.slice jU cY.length iE)) (fun _ h_=>h_.1))));(case side4=>exact (Kd.z8 d3.out).2.1);rintro e Fz ⟨rfl,hb⟩;replace co:=zA (Kd.z2 (by exact zr (Kd.z7 (Kd.z5 (p:=⟨bL,3,none⟩) (Kd.z10 co.out bh.out zY4) (fun _ hk=>hk.2) (.slice jU cY.length iE)) (fun _ h_=>h_.1))) hb);replace cJ:=zA (Kd.z2 (by exact zr (Kd.z7 (Kd.z5 (p:=⟨bL,3,none⟩) (Kd.z10 cJ.out bh.out zY4) (fun _ hk=>hk.2) (.slice jU cY.length iE)) (fun _ h_=>h_.1))) hb);replace d3:=zA (Kd.z2 (by exact zr (Kd.z7 (Kd.z5 (p:=⟨bL,3,none⟩) (Kd.z10 d3.out bh.out zY4) (fun _ hk=>hk.2) (.slice jU cY.length iE)) (fun _ h_=>h_.1))) hb);replace bg:=zA (zq1 (g:=cG) (o:=.cells #[.string bz0,.string bz0,.slice none 0 0,.slice none 0 0] 28 (0,0)) (zG bg.out) hb);replace bh:=zA (zq1 (g:=bL) (o:=.cells #[.string cN,.string dF,.slice hZ aT.length gD,.slice jU cY.length iE] 28 (0,0)) (zG bh.out) hb);replace HB:=zA (zq0 zB hb);clear hb;obtain ⟨_,_,_,_⟩:=zc4 bg.out;obtain ⟨_,_,_,_⟩:=zf4 bg.out))
  refine bodyPost_ret (zq13 rfl _ _ cG 28 #[.string bz0,.string bz0,.slice none 0 0,.slice none 0 0] (0,0) _ rfl (zG bg.out) Tryz.underlying28 rfl zY2) rfl ?_
  exact ⟨_,_,zT,zNil,zNil,zB⟩
 subst ch
 rw [if_pos rfl] at H
 replace H:=Option.bind_eq_some_iff.mp H
 obtain ⟨fo,ir,H⟩:=H
 try dsimp only at H
 have gW:=zA ir
 clear ir
 by_cases cI:fo.toList=a0.toList
 rotate_left
 ·rw [if_neg cI] at H
  have c22b0:(fo.toList==a0.toList)=false:=beq_eq_false_iff_ne.mpr cI
  have c22b1:(fo.toList != a0.toList)=true:=bne_iff_ne.mpr cI
  simp only [Option.some.injEq,Prod.mk.injEq] at H
  obtain ⟨rfl,rfl,rfl,rfl,rfl⟩:=H
  go_enter Tryz.func80,Tryz.ntmps80
  go_wp2_with (first|((with_reducible refine zq5 (N:=2) rfl ?_);refine zE (N:=2) (cs:=#[.string bz0,.string bz0,.slice none 0 0,.slice none 0 0]) (t:=28) ?_;intro cG hg mK hbox hb;have bg:=zA hbox;have oK:=zA (zS hg:w.heap.size≤cG);have oL:=zA (zS hg:w.heap.size≤cG);replace HB:=zA (zq0 zB hb);clear hb hbox hg)|((with_reducible refine zq2 (f:=127) rfl ?_);refine zq4 (some 14) rfl rfl Tryz.func127 zY2 rfl #[.string a0] rfl zY0 ?_;(with_reducible refine (spec_l2Get.calls k a0 cN dF aT aX bb _ A5.out).mono ?_);rintro e nx ⟨qX,qY,rfl,ar,cC,hb⟩;refine ⟨_,rfl,?_⟩;have co:=zA (Kd.z6 ar (zq7 zB));have cJ:=zA (Kd.z6 cC (zq7 zB));replace bg:=zA (zq1 (zK bg.out) hb);replace HB:=zA (zq0 zB hb);clear hb ar cC)|((with_reducible refine zq5 (N:=4) rfl ?_);refine zE (N:=4) (cs:=#[.string bz0,.string bz0,.slice none 0 0,.slice none 0 0]) (t:=28) ?_;intro bL hg qh hbox hb;replace co:=zA (Kd.z2 (zVR co.out) hb);replace cJ:=zA (Kd.z2 (zVR cJ.out) hb);have bh:=zA hbox;have qZ:=zA (zS hg:w.heap.size≤bL);have ra:=zA (zS hg:w.heap.size≤bL);replace HB:=zA (zq0 zB hb);have jS:=zA (zNlt hg (zK bg.out):cG≠bL);have jT:=zA (zNgt hg (zK bg.out):bL≠cG);replace bg:=zA (zq1 (zK bg.out) hb);clear hb hbox hg;have M7:=jT.out;have M8:=jS.out;obtain ⟨_,_,_,_⟩:=zc4 bh.out;obtain ⟨_,_,_,_⟩:=zf4 bh.out;obtain ⟨oT,mY,FA⟩:=Kd.z9 co.out;subst FA;obtain ⟨oU,oV,FB⟩:=Kd.z9 cJ.out;subst FB)|((with_reducible refine zq2 (f:=128) rfl ?_);refine zq4 (some 24) rfl rfl Tryz.func128 zY2 rfl #[.string (a0.extract (bb:Int).toNat a0.size)] rfl zY0 ?_;(with_reducible refine (spec_DotGet.calls k (a0.extract (bb:Int).toNat a0.size) cY true _ et.out).mono ?_);rintro e sQ ⟨vu,rfl,ar,hb⟩;refine ⟨_,rfl,?_⟩;replace co:=zA (Kd.z2 (by exact zr (Kd.z7 (zR4 bL (Kd.z10 co.out bh.out zY4) (.string cN) (.string dF) (.slice oT aT.length mY) (.slice oU aX.length oV)) (fun _ h_=>h_.1))) hb);have d3:=zA (Kd.z6 (Kd.R_new' ar (Kd.R_lt (by exact zr (Kd.z7 (zR4 bL (Kd.z10 cJ.out bh.out zY4) (.string cN) (.string dF) (.slice oT aT.length mY) (.slice oU aX.length oV)) (fun _ h_=>h_.1))))) (zq7 zB));replace cJ:=zA (Kd.R_elder' (by exact zr (Kd.z7 (zR4 bL (Kd.z10 cJ.out bh.out zY4) (.string cN) (.string dF) (.slice oT aT.length mY) (.slice oU aX.length oV)) (fun _ h_=>h_.1))) (Kd.R_base ar) hb);replace bg:=zA (zq1 (g:=cG) (o:=.cells #[.string bz0,.string bz0,.slice none 0 0,.slice none 0 0] 28 (0,0)) (zG bg.out) hb);replace bh:=zA (zq1 (g:=bL) (o:=.cells #[.string cN,.string dF,.slice oT aT.length mY,.slice oU aX.length oV] 28 (0,0)) (zG bh.out) hb);replace HB:=zA (zq0 zB hb);clear hb ar;obtain ⟨mZ,mb,FC⟩:=Kd.z9 d3.out;subst FC;obtain ⟨_,_,_,_⟩:=zc4 bh.out;obtain ⟨_,_,_,_⟩:=zf4 bh.out)|(go_at_call 57;(with_reducible refine (spec_l2Ok.calls k cN dF _ _ aT _ _ cY true _ ?side1 ?side2 ?side3 ?side4 dE.out).mono ?_);(case side1=>refine (Kd.z8 (e:=24) (base:=w.heap.size) (ok:=fun k_=>True) (n:=aT.length) (c:=mY) ?_).2.2;exact (by exact zr (Kd.z7 (Kd.z5 (p:=⟨bL,3,none⟩) (Kd.z10 co.out bh.out zY4) (fun _ hk=>hk.2) (.slice mZ cY.length mb)) (fun _ h_=>h_.1))));(case side2=>exact (Kd.z8 co.out).2.1);(case side3=>refine (Kd.z8 (e:=9) (base:=w.heap.size) (ok:=fun k_=>(True∧some k_≠(.slice oU aX.length oV:Value).ownBlock)) (n:=cY.length) (c:=mb) ?_).2.2;exact (by exact zr (Kd.z7 (Kd.z5 (p:=⟨bL,3,none⟩) (Kd.z10 d3.out bh.out zY4) (fun _ hk=>hk.2) (.slice mZ cY.length mb)) (fun _ h_=>h_.1))));(case side4=>exact (Kd.z8 d3.out).2.1);rintro e mE ⟨rfl,hb⟩;replace co:=zA (Kd.z2 (by exact zr (Kd.z7 (Kd.z5 (p:=⟨bL,3,none⟩) (Kd.z10 co.out bh.out zY4) (fun _ hk=>hk.2) (.slice mZ cY.length mb)) (fun _ h_=>h_.1))) hb);replace cJ:=zA (Kd.z2 (by exact zr (Kd.z7 (Kd.z5 (p:=⟨bL,3,none⟩) (Kd.z10 cJ.out bh.out zY4) (fun _ hk=>hk.2) (.slice mZ cY.length mb)) (fun _ h_=>h_.1))) hb);replace d3:=zA (Kd.z2 (by exact zr (Kd.z7 (Kd.z5 (p:=⟨bL,3,none⟩) (Kd.z10 d3.out bh.out zY4) (fun _ hk=>hk.2) (.slice mZ cY.length mb)) (fun _ h_=>h_.1))) hb);replace bg:=zA (zq1 (g:=cG) (o:=.cells #[.string bz0,.string bz0,.slice none 0 0,.slice none 0 0] 28 (0,0)) (zG bg.out) hb);replace bh:=zA (zq1 (g:=bL) (o:=.cells #[.string cN,.string dF,.slice oT aT.length mY,.slice mZ cY.length mb] 28 (0,0)) (zG bh.out) hb);replace HB:=zA (zq0 zB hb);clear hb;obtain ⟨_,_,_,_⟩:=zc4 bh.out;obtain ⟨_,_,_,_⟩:=zf4 bh.out)|(go_at_call 61;(with_reducible refine (spec_l2Put.calls k cN dF _ _ aT _ _ cY fo _ ?side1 ?side2 ?side3 ?side4 gW.out).mono ?_);(case side1=>exact zC (Kd.z8 co.out).2.2);(case side2=>exact (Kd.z8 co.out).2.1);(case side3=>exact zC (Kd.z8 d3.out).2.2);(case side4=>exact (Kd.z8 d3.out).2.1);rintro e FD ⟨rfl,hb⟩;replace co:=zA (Kd.z2 (zVR co.out) hb);replace cJ:=zA (Kd.z2 (zVR cJ.out) hb);replace d3:=zA (Kd.z2 (zVR d3.out) hb);replace bg:=zA (zq1 (zK bg.out) hb);replace bh:=zA (zq1 (zK bh.out) hb);replace HB:=zA (zq0 zB hb);clear hb;obtain ⟨_,_,_,_⟩:=zc4 bg.out;obtain ⟨_,_,_,_⟩:=zf4 bg.out))
  refine bodyPost_ret (zq13 rfl _ _ cG 28 #[.string bz0,.string bz0,.slice none 0 0,.slice none 0 0] (0,0) _ rfl (zG bg.out) Tryz.underlying28 rfl zY2) rfl ?_
  exact ⟨_,_,zT,zNil,zNil,zB⟩
 rw [if_pos cI] at H
 have c22b0:(fo.toList==a0.toList)=true:=beq_iff_eq.mpr cI
 have c22b1:(fo.toList != a0.toList)=false:=bne_eq_false_iff_eq.mpr cI
 clear cI
 simp only [Option.some.injEq,Prod.mk.injEq] at H
 obtain ⟨rfl,rfl,rfl,rfl,rfl⟩:=H
 go_enter Tryz.func80,Tryz.ntmps80
 go_wp2_with (first|((with_reducible refine zq5 (N:=2) rfl ?_);refine zE (N:=2) (cs:=#[.string bz0,.string bz0,.slice none 0 0,.slice none 0 0]) (t:=28) ?_;intro cG hg kI hbox hb;have bg:=zA hbox;have oK:=zA (zS hg:w.heap.size≤cG);have oL:=zA (zS hg:w.heap.size≤cG);replace HB:=zA (zq0 zB hb);clear hb hbox hg)|((with_reducible refine zq2 (f:=127) rfl ?_);refine zq4 (some 14) rfl rfl Tryz.func127 zY2 rfl #[.string a0] rfl zY0 ?_;(with_reducible refine (spec_l2Get.calls k a0 cN dF aT aX bb _ A5.out).mono ?_);rintro e qi ⟨qX,qY,rfl,ar,cC,hb⟩;refine ⟨_,rfl,?_⟩;have co:=zA (Kd.z6 ar (zq7 zB));have cJ:=zA (Kd.z6 cC (zq7 zB));replace bg:=zA (zq1 (zK bg.out) hb);replace HB:=zA (zq0 zB hb);clear hb ar cC)|((with_reducible refine zq5 (N:=4) rfl ?_);refine zE (N:=4) (cs:=#[.string bz0,.string bz0,.slice none 0 0,.slice none 0 0]) (t:=28) ?_;intro bL hg jA hbox hb;replace co:=zA (Kd.z2 (zVR co.out) hb);replace cJ:=zA (Kd.z2 (zVR cJ.out) hb);have bh:=zA hbox;have qZ:=zA (zS hg:w.heap.size≤bL);have ra:=zA (zS hg:w.heap.size≤bL);replace HB:=zA (zq0 zB hb);have jS:=zA (zNlt hg (zK bg.out):cG≠bL);have jT:=zA (zNgt hg (zK bg.out):bL≠cG);replace bg:=zA (zq1 (zK bg.out) hb);clear hb hbox hg;have M9:=jT.out;have Na:=jS.out;obtain ⟨_,_,_,_⟩:=zc4 bh.out;obtain ⟨_,_,_,_⟩:=zf4 bh.out;obtain ⟨fw,eW,oE⟩:=Kd.z9 co.out;subst oE;obtain ⟨l8,l9,vg⟩:=Kd.z9 cJ.out;subst vg)|((with_reducible refine zq2 (f:=128) rfl ?_);refine zq4 (some 24) rfl rfl Tryz.func128 zY2 rfl #[.string (a0.extract (bb:Int).toNat a0.size)] rfl zY0 ?_;(with_reducible refine (spec_DotGet.calls k (a0.extract (bb:Int).toNat a0.size) cY true _ et.out).mono ?_);rintro e uo ⟨vu,rfl,ar,hb⟩;refine ⟨_,rfl,?_⟩;replace co:=zA (Kd.z2 (by exact zr (Kd.z7 (zR4 bL (Kd.z10 co.out bh.out zY4) (.string cN) (.string dF) (.slice fw aT.length eW) (.slice l8 aX.length l9)) (fun _ h_=>h_.1))) hb);have d3:=zA (Kd.z6 (Kd.R_new' ar (Kd.R_lt (by exact zr (Kd.z7 (zR4 bL (Kd.z10 cJ.out bh.out zY4) (.string cN) (.string dF) (.slice fw aT.length eW) (.slice l8 aX.length l9)) (fun _ h_=>h_.1))))) (zq7 zB));replace cJ:=zA (Kd.R_elder' (by exact zr (Kd.z7 (zR4 bL (Kd.z10 cJ.out bh.out zY4) (.string cN) (.string dF) (.slice fw aT.length eW) (.slice l8 aX.length l9)) (fun _ h_=>h_.1))) (Kd.R_base ar) hb);replace bg:=zA (zq1 (g:=cG) (o:=.cells #[.string bz0,.string bz0,.slice none 0 0,.slice none 0 0] 28 (0,0)) (zG bg.out) hb);replace bh:=zA (zq1 (g:=bL) (o:=.cells #[.string cN,.string dF,.slice fw aT.length eW,.slice l8 aX.length l9] 28 (0,0)) (zG bh.out) hb);replace HB:=zA (zq0 zB hb);clear hb ar;obtain ⟨iB,hY,vf⟩:=Kd.z9 d3.out;subst vf;obtain ⟨_,_,_,_⟩:=zc4 bh.out;obtain ⟨_,_,_,_⟩:=zf4 bh.out)|(go_at_call 57;(with_reducible refine (spec_l2Ok.calls k cN dF _ _ aT _ _ cY true _ ?side1 ?side2 ?side3 ?side4 dE.out).mono ?_);(case side1=>refine (Kd.z8 (e:=24) (base:=w.heap.size) (ok:=fun k_=>True) (n:=aT.length) (c:=eW) ?_).2.2;exact (by exact zr (Kd.z7 (Kd.z5 (p:=⟨bL,3,none⟩) (Kd.z10 co.out bh.out zY4) (fun _ hk=>hk.2) (.slice iB cY.length hY)) (fun _ h_=>h_.1))));(case side2=>exact (Kd.z8 co.out).2.1);(case side3=>refine (Kd.z8 (e:=9) (base:=w.heap.size) (ok:=fun k_=>(True∧some k_≠(.slice l8 aX.length l9:Value).ownBlock)) (n:=cY.length) (c:=hY) ?_).2.2;exact (by exact zr (Kd.z7 (Kd.z5 (p:=⟨bL,3,none⟩) (Kd.z10 d3.out bh.out zY4) (fun _ hk=>hk.2) (.slice iB cY.length hY)) (fun _ h_=>h_.1))));(case side4=>exact (Kd.z8 d3.out).2.1);rintro e eR ⟨rfl,hb⟩;replace co:=zA (Kd.z2 (by exact zr (Kd.z7 (Kd.z5 (p:=⟨bL,3,none⟩) (Kd.z10 co.out bh.out zY4) (fun _ hk=>hk.2) (.slice iB cY.length hY)) (fun _ h_=>h_.1))) hb);replace cJ:=zA (Kd.z2 (by exact zr (Kd.z7 (Kd.z5 (p:=⟨bL,3,none⟩) (Kd.z10 cJ.out bh.out zY4) (fun _ hk=>hk.2) (.slice iB cY.length hY)) (fun _ h_=>h_.1))) hb);replace d3:=zA (Kd.z2 (by exact zr (Kd.z7 (Kd.z5 (p:=⟨bL,3,none⟩) (Kd.z10 d3.out bh.out zY4) (fun _ hk=>hk.2) (.slice iB cY.length hY)) (fun _ h_=>h_.1))) hb);replace bg:=zA (zq1 (g:=cG) (o:=.cells #[.string bz0,.string bz0,.slice none 0 0,.slice none 0 0] 28 (0,0)) (zG bg.out) hb);replace bh:=zA (zq1 (g:=bL) (o:=.cells #[.string cN,.string dF,.slice fw aT.length eW,.slice iB cY.length hY] 28 (0,0)) (zG bh.out) hb);replace HB:=zA (zq0 zB hb);clear hb;obtain ⟨_,_,_,_⟩:=zc4 bh.out;obtain ⟨_,_,_,_⟩:=zf4 bh.out)|(go_at_call 61;(with_reducible refine (spec_l2Put.calls k cN dF _ _ aT _ _ cY fo _ ?side1 ?side2 ?side3 ?side4 gW.out).mono ?_);(case side1=>exact zC (Kd.z8 co.out).2.2);(case side2=>exact (Kd.z8 co.out).2.1);(case side3=>exact zC (Kd.z8 d3.out).2.2);(case side4=>exact (Kd.z8 d3.out).2.1);rintro e mN ⟨rfl,hb⟩;replace co:=zA (Kd.z2 (zVR co.out) hb);replace cJ:=zA (Kd.z2 (zVR cJ.out) hb);replace d3:=zA (Kd.z2 (zVR d3.out) hb);replace bg:=zA (zq1 (zK bg.out) hb);replace bh:=zA (zq1 (zK bh.out) hb);replace HB:=zA (zq0 zB hb);clear hb;obtain ⟨_,_,_,_⟩:=zc4 bh.out;obtain ⟨_,_,_,_⟩:=zf4 bh.out;obtain ⟨_,_,_,_⟩:=zc4 bg.out;obtain ⟨_,_,_,_⟩:=zf4 bg.out))
 refine bodyPost_ret (zq13 rfl _ _ cG 28 #[.string cN,.string dF,.slice fw aT.length eW,.slice iB cY.length hY] (0,0) _ rfl (zG bg.out) Tryz.underlying28 rfl zY2) rfl ?_
 exact ⟨_,_,zT,by (with_reducible repeat (first|apply Kd.z1|apply Kd.z4|apply Kd.z3));exact Kd.z7 (zR4 cG (Kd.z10 co.out bg.out zY4) (.string cN) (.string dF) (.slice fw aT.length eW) (.slice iB cY.length hY)) (fun _ hk=>trivial),by (with_reducible repeat (first|apply Kd.z1|apply Kd.z4|apply Kd.z3));exact Kd.z7 (zR4 cG (Kd.z10 d3.out bg.out zY4) (.string cN) (.string dF) (.slice fw aT.length eW) (.slice iB cY.length hY)) (fun _ hk=>trivial),zB⟩
end Go.Proofs.YtjdpdkdhfnpcgaaGreatDoor.Q
