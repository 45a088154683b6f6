/- Of a text of ours what this claim needs. -/
import Derived.Test.YtjdpdkdhfnpcgaaGreatDoorZzFnExactNoteGetSQ0
import Derived.Test.YtjdpdkdhfnpcgaaGreatDoorZzFnExactNoteGetSAu
import Derived.Test.YtjdpdkdhfnpcgaaGreatDoorZzFnExactNoteGetSQ20
import Derived.Test.YtjdpdkdhfnpcgaaGreatDoorZzFnExactNoteGetSQ21
namespace Go.Proofs.YtjdpdkdhfnpcgaaGreatDoor.Q
open Go.RowKit Go.Proofs.YtjdpdkdhfnpcgaaGreatDoorW.PrintWords Go.Proofs.YtjdpdkdhfnpcgaaGreatDoorW.PrintLast Go.Proofs.YtjdpdkdhfnpcgaaGreatDoorW.PrintMore
attribute [local go_sem] max2_int min2_int max_two min_two max_three min_three max_four min_four
set_option linter.unusedVariables false
set_option linter.unusedSimpArgs false
mutual
def spec_l2Get.l0:Nat→List ByteArray→Int→Int→ByteArray→ByteArray→List (S24)→Option (ByteArray × ByteArray × (List (S24)) × List ByteArray × Int)
 | 0,_,_,_,_,_,_=>none
 | k+1,x4,x7,x8,fR,fS,fj=>if x8 < (x4.length:Int) then (if 0≤x8 then (if (rdOf ByteArray.empty x4 x8).toList=([]:List UInt8) then (spec_l2Get.j1 k x4 (wrap64 ((wrap64 (x7+((rdOf ByteArray.empty x4 x8).size:Int)))+2)) x8 (rdOf ByteArray.empty x4 x8) (decide (x8 > 1)) fR fS fj) else (spec_l2Get.j1 k x4 (wrap64 ((wrap64 (x7+((rdOf ByteArray.empty x4 x8).size:Int)))+2)) x8 (rdOf ByteArray.empty x4 x8) false fR fS fj)) else (none)) else (some (fR,fS,fj,([]:List ByteArray),0))
def spec_l2Get.j1:Nat→List ByteArray→Int→Int→ByteArray→Bool→ByteArray→ByteArray→List (S24)→Option (ByteArray × ByteArray × (List (S24)) × List ByteArray × Int)
 | 0,_,_,_,_,_,_,_,_=>none
 | k+1,x4,x7,x8,x9,Es,fR,fS,fj=>if Es=true then (some (fR,fS,fj,([]:List ByteArray),x7)) else (if x8=0 then (if (x9.size:Int) > 5 then (if 0≤5 then (if 5≤(x9.size:Int) then (spec_l2Get.j2 k x4 x7 x8 x9 ((x9.extract 0 5).toList==([102,114,111,109,32]:List UInt8)) fR fS fj) else (none)) else (none)) else (spec_l2Get.j2 k x4 x7 x8 x9 false fR fS fj)) else (spec_l2Get.j2 k x4 x7 x8 x9 false fR fS fj))
def spec_l2Get.j2:Nat→List ByteArray→Int→Int→ByteArray→Bool→ByteArray→ByteArray→List (S24)→Option (ByteArray × ByteArray × (List (S24)) × List ByteArray × Int)
 | 0,_,_,_,_,_,_,_,_=>none
 | k+1,x4,x7,x8,x9,Et,fR,fS,fj=>if Et=true then (if 5≤(x9.size:Int) then ((spec_AddrGet.f k (x9.extract 5 x9.size)).bind fun bw=>(if bw.2.2=true then (spec_l2Get.l0 k x4 x7 (wrap64 (x8+1)) bw.1 bw.2.1 fj) else (some (fR,fS,fj,([]:List ByteArray),0)))) else (none)) else (if x8 > 0 then (if (x9.size:Int) > 3 then (if 0≤3 then (if 3≤(x9.size:Int) then (spec_l2Get.j3 k x4 x7 x8 x9 ((x9.extract 0 3).toList==([116,111,32]:List UInt8)) fR fS fj) else (none)) else (none)) else (spec_l2Get.j3 k x4 x7 x8 x9 false fR fS fj)) else (spec_l2Get.j3 k x4 x7 x8 x9 false fR fS fj))
def spec_l2Get.j3:Nat→List ByteArray→Int→Int→ByteArray→Bool→ByteArray→ByteArray→List (S24)→Option (ByteArray × ByteArray × (List (S24)) × List ByteArray × Int)
 | 0,_,_,_,_,_,_,_,_=>none
 | k+1,x4,x7,x8,x9,Eu,fR,fS,fj=>if Eu=true then (if 3≤(x9.size:Int) then ((spec_AddrGet.f k (x9.extract 3 x9.size)).bind fun uE=>(if uE.2.2=true then (if fj.length < 4398046511104 then (spec_l2Get.l0 k x4 x7 (wrap64 (x8+1)) fR fS (fj++[(⟨uE.1,uE.2.1⟩:S24)])) else (none)) else (some (fR,fS,fj,([]:List ByteArray),0)))) else (none)) else (some (fR,fS,fj,([]:List ByteArray),0))
end
def spec_l2Get.f (k:Nat) (a0:ByteArray):Option (ByteArray × ByteArray × (List (S24)) × List ByteArray × Int):=(spec_l2Lines.f k a0).bind fun dK=>(spec_l2Get.l0 k dK.1 0 0 (⟨#[]⟩:ByteArray) (⟨#[]⟩:ByteArray) ([]:List (S24)))
set_option maxHeartbeats 8000000 in
set_option maxRecDepth 100000 in
theorem spec_l2Get.calls (k:Nat) (a0:ByteArray) (r1:ByteArray) (r2:ByteArray) (r3:List (S24)) (r4:List ByteArray) (r5:Int) (w:World) (h:spec_l2Get.f k a0=some (r1,r2,r3,r4,r5)) :
 Calls Tryz.prog 127 #[.string a0] w fun e w'=>∃ kN kO:Value,e=.returned (.tuple #[.agg #[.string r1,.string r2,kN,kO],.int .i64 r5])∧Kd.R k24 24 w' w.heap.size (fun _=>True) kN r3∧Kd.R Kd.string 9 w' w.heap.size (fun _=>True) kO r4∧Below w.heap.size w w':=by
 have hu28:=Tryz.underlying28
 have hu24:=Tryz.underlying24
 have HB:=zA (Below.refl w.heap.size w)
 have H:((spec_l2Lines.f k a0).bind fun dK=>(spec_l2Get.l0 k dK.1 0 0 bz0 bz0 ([]:List (S24))))=some (r1,r2,r3,r4,r5):=h
 clear h
 replace H:=Option.bind_eq_some_iff.mp H
 obtain ⟨⟨ai,cn⟩,bv,H⟩:=H
 try dsimp only at H
 have A2:=zA bv
 clear bv
 have H':=zA H
 clear H
 go_enter Tryz.func127,Tryz.ntmps127
 go_wp2_with (first|((with_reducible refine zq5 (N:=2) rfl ?_);(try (refine gate_guard zY30 ?_;dsimp only));refine zE (N:=2) (cs:=#[.string bz0,.string bz0,.slice none 0 0,.slice none 0 0]) (t:=28) ?_;intro aV hg w3 hbox hb;have ag:=zA hbox;have iV:=zA (zS hg:w.heap.size≤aV);have lX:=zA (zS hg:w.heap.size≤aV);replace HB:=zA (zq0 zB hb);clear hb hbox hg)|((with_reducible refine zq2 (f:=164) rfl ?_);refine zq4 (some 16) rfl rfl Tryz.func164 zY2 rfl #[.string a0] rfl zY0 ?_;(with_reducible refine (spec_l2Lines.calls k a0 ai cn _ A2.out).mono ?_);rintro e w4 ⟨Ew,rfl,ar,hb⟩;refine ⟨_,rfl,?_⟩;have uF:=zA (Kd.z6 ar (zq7 zB));replace ag:=zA (zq1 (zK ag.out) hb);replace HB:=zA (zq0 zB hb);clear hb ar)|((with_reducible refine zq5 (N:=6) rfl ?_);(try (refine gate_guard zY30 ?_;dsimp only));refine zE (N:=6) (cs:=#[.string bz0,.string bz0,.slice none 0 0,.slice none 0 0]) (t:=28) ?_;intro d2 hg w5 hbox hb;replace uF:=zA (Kd.z2 (zVR uF.out) hb);have aZ:=zA hbox;have zd:=zA (zS hg:w.heap.size≤d2);have ze:=zA (zS hg:w.heap.size≤d2);replace HB:=zA (zq0 zB hb);have kP:=zA (zNlt hg (zK ag.out):aV≠d2);have kQ:=zA (zNgt hg (zK ag.out):d2≠aV);replace ag:=zA (zq1 (zK ag.out) hb);clear hb hbox hg;have MG:=kQ.out;have MH:=kP.out;obtain ⟨ky,kz,kA,kB⟩:=zc4 aZ.out;obtain ⟨kC,kD,kE,kF⟩:=zf4 aZ.out))
 go_loopg [7,8] k (fun kq v7 v8 w'=>∃ (aU:Int) (aq:Int) (fk:ByteArray) (fl:ByteArray) (eH:ByteArray) (eI:ByteArray) (eJ:List (S24)) (u163002:Value),v7=.int .i64 aU∧v8=.int .i64 aq∧Aside0 (spec_l2Get.l0 kq ai aU aq eH eI eJ=some (r1,r2,r3,r4,r5))∧Aside0 (kq≤k)∧Aside0 (Kd.R Kd.string 9 w' w.heap.size (fun _=>True) Ew ai)∧Aside0 (Kd.R k24 24 w' w.heap.size (fun _=>True) u163002 eJ)∧Aside0 (w'.heap[aV]?=some (.cells #[.string fk,.string fl,(.slice none 0 0),(.slice none 0 0)] 28 (0,0)))∧Aside0 (w'.heap[d2]?=some (.cells #[.string eH,.string eI,u163002,(.slice none 0 0)] 28 (0,0)))∧Aside0 (Below w.heap.size w w'))
 case atStart=>exact ⟨(0),(0),(bz0),(bz0),(bz0),(bz0),(([]:List (S24))),(.slice none 0 0),zY3,zY3,H',⟨Nat.le_refl _⟩,⟨by (with_reducible repeat (first|apply Kd.z1|apply Kd.z4|apply Kd.z3));exact Kd.z7 (zR4 d2 (Kd.z10 uF.out aZ.out zY4) (.string bz0) (.string bz0) (.slice none 0 0) (.slice none 0 0)) (fun _ hk=>trivial)⟩,⟨zNil⟩,⟨zG ag.out⟩,⟨zG aZ.out⟩,⟨zB⟩⟩
 case round =>
  clear H'
  try clear c1
  try clear p2
  try clear c6
  try clear ky kz kA kB
  try clear kC kD kE kF
  obtain ⟨aU,aq,fk,fl,eH,eI,eJ,u163002,rfl,rfl,HA,HK1,au,cz,ag,aZ,HB⟩:=hrel
  cases gk with
  | zero=>exact absurd HA.out (by simp [spec_l2Get.l0])
  | succ k1 =>
   have H:=HA.out
   clear HA
   simp only [spec_l2Get.l0] at H
   by_cases c8:aq < (ai.length:Int)
   rotate_left
   ·rw [if_neg c8] at H
    have c8b0:decide (aq < (ai.length:Int))=false:=decide_eq_false c8
    clear c8
    simp only [Option.some.injEq,Prod.mk.injEq] at H
    obtain ⟨rfl,rfl,rfl,rfl,rfl⟩:=H
    obtain ⟨MI,MJ,Ex⟩:=Kd.z9 au.out
    subst Ex
    have Ey:=kQ.out
    have Ez:=kP.out
    obtain ⟨_,_,_,_⟩:=zc4 aZ.out
    obtain ⟨_,_,_,_⟩:=zf4 aZ.out
    obtain ⟨_,_,_,_⟩:=zc4 ag.out
    obtain ⟨_,_,_,_⟩:=zf4 ag.out
    obtain ⟨zf,zh,EA⟩:=Kd.z9 cz.out
    subst EA
    go_wp2
    refine bodyPost_ret (zq13 rfl _ _ aV 28 #[.string eH,.string eI,.slice zf eJ.length zh,.slice none 0 0] (0,0) _ rfl (zG ag.out) Tryz.underlying28 rfl zY2) rfl ?_
    exact ⟨_,_,zT,by (with_reducible repeat (first|apply Kd.z1|apply Kd.z4|apply Kd.z3));exact Kd.z7 (zR4 aV (Kd.z10 cz.out ag.out zY4) (.string eH) (.string eI) (.slice zf eJ.length zh) (.slice none 0 0)) (fun _ hk=>trivial),zNil,zB⟩
   rw [if_pos c8] at H
   have c8b0:decide (aq < (ai.length:Int))=true:=decide_eq_true c8
   clear c8
   obtain ⟨c9,H⟩:=zp H
   have c9b0:decide (0≤aq)=true:=decide_eq_true c9
   clear c9
   have uG:=zA H
   clear H
   obtain ⟨oc,iz,od⟩:=Kd.z9 au.out
   subst od
   have mV:0≤(aq:Int):=of_decide_eq_true zY1
   have mW:aq < (ai.length:Int):=of_decide_eq_true zY1
   obtain ⟨uH,EB,uI⟩:=Kd.z11 (Kd.z8 au.out).2.2 aq mV mW
   cases EB
   replace mV:=eq_true mV
   replace mW:=eq_true mW
   go_upto_region 10 with (fail)
   go_cut [36] (fun EC wc=>∃ (kq:Nat) (qE:Bool),EC=.bool qE∧Aside0 (spec_l2Get.j1 kq ai (wrap64 ((wrap64 (aU+((rdOf ByteArray.empty ai aq).size:Int)))+2)) aq (rdOf ByteArray.empty ai aq) qE eH eI eJ=some (r1,r2,r3,r4,r5))∧Aside0 (kq≤k1)∧Aside0 (Kd.R Kd.string 9 wc w.heap.size (fun _=>True) (.slice (some uH) ai.length iz) ai)∧Aside0 (Kd.R k24 24 wc w.heap.size (fun _=>True) u163002 eJ)∧Aside0 (wc.heap[aV]?=some (.cells #[.string fk,.string fl,(.slice none 0 0),(.slice none 0 0)] 28 (0,0)))∧Aside0 (wc.heap[d2]?=some (.cells #[.string eH,.string eI,u163002,(.slice none 0 0)] 28 (0,0)))∧Aside0 (Below w.heap.size w wc))
   case first =>
    have H:=uG.out
    clear uG
    by_cases bH:(rdOf ByteArray.empty ai aq).toList=([]:List UInt8)
    rotate_left
    ·rw [if_neg bH] at H
     have c12b0:((rdOf ByteArray.empty ai aq).toList==([]:List UInt8))=false:=beq_eq_false_iff_ne.mpr bH
     have c12b1:((rdOf ByteArray.empty ai aq).toList != ([]:List UInt8))=true:=bne_iff_ne.mpr bH
     (first|rw [c12b0]|(simp only [i64_w,i32_w];rw [c12b0])|skip)
     have H':=zA H
     clear H
     go_wp2
     go_meet
     case rel=>exact ⟨_,(false),zY3,H',⟨by have:=HK1.out;first|omega|exact Nat.le_refl _⟩,⟨zVR au.out⟩,⟨zVR cz.out⟩,⟨zK ag.out⟩,⟨zK aZ.out⟩,⟨zB⟩⟩
    rw [if_pos bH] at H
    have c12b0:((rdOf ByteArray.empty ai aq).toList==([]:List UInt8))=true:=beq_iff_eq.mpr bH
    have c12b1:((rdOf ByteArray.empty ai aq).toList != ([]:List UInt8))=false:=bne_eq_false_iff_eq.mpr bH
    clear bH
    (first|rw [c12b0]|(simp only [i64_w,i32_w];rw [c12b0])|skip)
    have H':=zA H
    clear H
    go_wp2
    go_meet
    case rel=>exact ⟨_,(decide (aq > 1)),zY3,H',⟨by have:=HK1.out;first|omega|exact Nat.le_refl _⟩,⟨zVR au.out⟩,⟨zVR cz.out⟩,⟨zK ag.out⟩,⟨zK aZ.out⟩,⟨zB⟩⟩
   case rest =>
    clear uG
    try clear c1
    try clear p1
    try clear q1
    try clear lr
    try clear p2
    try clear c6
    try clear p6
    try clear c8
    try clear c8b0
    try clear c9
    try clear c9b0
    try clear bH
    try clear c12b0
    try clear c12b1
    try clear ky kz kA kB
    try clear kC kD kE kF
    try clear uI
    try clear mV
    try clear p2
    try clear mW
    obtain ⟨kq,qE,rfl,HA,HJ9,au,cz,ag,aZ,HB⟩:=hcut
    cases kq with
    | zero=>exact absurd HA.out (by simp [spec_l2Get.j1])
    | succ kj9 =>
     have H:=HA.out
     clear HA
     simp only [spec_l2Get.j1] at H
     by_cases bj:qE=true
     ·subst bj
      rw [if_pos rfl] at H
      simp only [Option.some.injEq,Prod.mk.injEq] at H
      obtain ⟨rfl,rfl,rfl,rfl,rfl⟩:=H
      have MK:=kQ.out
      have ML:=kP.out
      obtain ⟨qF,qG,qH,qI⟩:=zc4 aZ.out
      obtain ⟨qJ,qK,qL,qM⟩:=zf4 aZ.out
      obtain ⟨oe,of_,og,oh⟩:=zc4 ag.out
      obtain ⟨ol,om,on_,oo⟩:=zf4 ag.out
      obtain ⟨uJ,uK,uL⟩:=Kd.z9 cz.out
      subst uL
      go_wp2
      refine bodyPost_ret (zq13 rfl _ _ aV 28 #[.string eH,.string eI,.slice uJ eJ.length uK,.slice none 0 0] (0,0) _ rfl (zG ag.out) Tryz.underlying28 rfl zY2) rfl ?_
      exact ⟨_,_,zT,by (with_reducible repeat (first|apply Kd.z1|apply Kd.z4|apply Kd.z3));exact Kd.z7 (zR4 aV (Kd.z10 cz.out ag.out zY4) (.string eH) (.string eI) (.slice uJ eJ.length uK) (.slice none 0 0)) (fun _ hk=>trivial),zNil,zB⟩
     replace bj:=Bool.eq_false_iff.mpr bj
     subst bj
     rw [if_neg zfn] at H
     have uM:=zA H
     clear H
     go_upto_region 12 with (fail)
     go_cut [45] (fun ED wc=>∃ (kq:Nat) (qN:Bool),ED=.bool qN∧Aside0 (spec_l2Get.j2 kq ai (wrap64 ((wrap64 (aU+((rdOf ByteArray.empty ai aq).size:Int)))+2)) aq (rdOf ByteArray.empty ai aq) qN eH eI eJ=some (r1,r2,r3,r4,r5))∧Aside0 (kq≤kj9)∧Aside0 (Kd.R Kd.string 9 wc w.heap.size (fun _=>True) (.slice (some uH) ai.length iz) ai)∧Aside0 (Kd.R k24 24 wc w.heap.size (fun _=>True) u163002 eJ)∧Aside0 (wc.heap[aV]?=some (.cells #[.string fk,.string fl,(.slice none 0 0),(.slice none 0 0)] 28 (0,0)))∧Aside0 (wc.heap[d2]?=some (.cells #[.string eH,.string eI,u163002,(.slice none 0 0)] 28 (0,0)))∧Aside0 (Below w.heap.size w wc))
     case first =>
      have H:=uM.out
      clear uM
      by_cases cL:aq=0
      rotate_left
      ·rw [if_neg cL] at H
       have c19b0:(aq==0)=false:=beq_eq_false_iff_ne.mpr cL
       have c19b1:(aq != 0)=true:=bne_iff_ne.mpr cL
       (first|rw [c19b0]|(simp only [i64_w,i32_w];rw [c19b0])|skip)
       have H':=zA H
       clear H
       go_wp2
       go_meet
       case rel=>exact ⟨_,(false),zY3,H',⟨by have:=HK1.out;have:=HJ9.out;first|omega|exact Nat.le_refl _⟩,⟨zVR au.out⟩,⟨zVR cz.out⟩,⟨zK ag.out⟩,⟨zK aZ.out⟩,⟨zB⟩⟩
      rw [if_pos cL] at H
      have c19b0:(aq==0)=true:=beq_iff_eq.mpr cL
      have c19b1:(aq != 0)=false:=bne_eq_false_iff_eq.mpr cL
      clear cL
      (first|rw [c19b0]|(simp only [i64_w,i32_w];rw [c19b0])|skip)
      by_cases ch:((rdOf ByteArray.empty ai aq).size:Int) > 5
      rotate_left
      ·rw [if_neg ch] at H
       have c20b0:decide (5 < ((rdOf ByteArray.empty ai aq).size:Int))=false:=decide_eq_false ch
       have c20b1:decide (5 < (rdOf ByteArray.empty ai aq).size)=false:=decide_eq_false zY6
       clear ch
       have H':=zA H
       clear H
       go_wp2
       go_meet
       case rel=>exact ⟨_,(false),zY3,H',⟨by have:=HK1.out;have:=HJ9.out;first|omega|exact Nat.le_refl _⟩,⟨zVR au.out⟩,⟨zVR cz.out⟩,⟨zK ag.out⟩,⟨zK aZ.out⟩,⟨zB⟩⟩
      rw [if_pos ch] at H
      have c20b0:decide (5 < ((rdOf ByteArray.empty ai aq).size:Int))=true:=decide_eq_true ch
      have c20b1:decide (5 < (rdOf ByteArray.empty ai aq).size)=true:=decide_eq_true zY6
      clear ch
      obtain ⟨dQ,H⟩:=zp H
      have c21b0:=eq_true dQ
      have c21b1:decide (0≤5)=true:=decide_eq_true dQ
      clear dQ
      obtain ⟨cI,H⟩:=zp H
      have c22b0:=eq_true cI
      have c22b1:decide (5≤((rdOf ByteArray.empty ai aq).size:Int))=true:=decide_eq_true cI
      clear cI
      have H':=zA H
      clear H
      go_wp2
      go_meet
      case rel=>exact ⟨_,((((rdOf ByteArray.empty ai aq).extract 0 5).toList==([102,114,111,109,32]:List UInt8))),zY3,H',⟨by have:=HK1.out;have:=HJ9.out;first|omega|exact Nat.le_refl _⟩,⟨zVR au.out⟩,⟨zVR cz.out⟩,⟨zK ag.out⟩,⟨zK aZ.out⟩,⟨zB⟩⟩
     case rest =>
      clear uM
      try clear c1
      try clear p1
      try clear q1
      try clear lr
      try clear c2
      try clear p2
      try clear c6
      try clear p6
      try clear c8
      try clear c8b0
      try clear c9
      try clear c9b0
      try clear bH
      try clear c12b0
      try clear c12b1
      try clear bj
      try clear bB
      try clear ck
      try clear zi
      try clear zj
      try clear EE
      try clear cL
      try clear c19b0
      try clear c19b1
      try clear ch
      try clear c20b0
      try clear c20b1
      try clear dQ
      try clear c21b0
      try clear c21b1
      try clear cI
      try clear c22b0
      try clear c22b1
      try clear qF qG qH qI
      try clear oe of_ og oh
      try clear ky kz kA kB
      try clear qJ qK qL qM
      try clear ol om on_ oo
      try clear kC kD kE kF
      try clear uI
      try clear p1
      try clear mV
      try clear p2
      try clear p6
      try clear q1
      try clear mW
      obtain ⟨kq,qN,rfl,HA,HJ17,au,cz,ag,aZ,HB⟩:=hcut
      cases kq with
      | zero=>exact absurd HA.out (by simp [spec_l2Get.j2])
      | succ kj17 =>
       have H:=HA.out
       clear HA
       simp only [spec_l2Get.j2] at H
       by_cases g5:qN=true
       ·subst g5
        rw [if_pos rfl] at H
        obtain ⟨gi,H⟩:=zp H
        have c24b0:=eq_true gi
        have c24b1:decide (5≤((rdOf ByteArray.empty ai aq).size:Int))=true:=decide_eq_true gi
        clear gi
        replace H:=Option.bind_eq_some_iff.mp H
        obtain ⟨⟨b7,cV,dR⟩,n5,H⟩:=H
        try dsimp only at H
        have qB:=zA n5
        clear n5
        by_cases fE:dR=true
        rotate_left
        ·replace fE:=Bool.eq_false_iff.mpr fE
         subst fE
         rw [if_neg zfn] at H
         simp only [Option.some.injEq,Prod.mk.injEq] at H
         obtain ⟨rfl,rfl,rfl,rfl,rfl⟩:=H
         go_wp2_with (first|((with_reducible refine zq2 (f:=81) rfl ?_);refine zq4 (some 61) rfl rfl Tryz.func81 zY2 rfl #[.string ((rdOf ByteArray.empty ai aq).extract 5 (rdOf ByteArray.empty ai aq).size)] rfl zY0 ?_;(with_reducible refine (spec_AddrGet.calls kj17 ((rdOf ByteArray.empty ai aq).extract 5 (rdOf ByteArray.empty ai aq).size) b7 cV false _ qB.out).mono ?_);rintro e n2 ⟨rfl,hb⟩;refine ⟨_,rfl,?_⟩;replace au:=zA (Kd.z2 (zVR au.out) hb);replace cz:=zA (Kd.z2 (zVR cz.out) hb);replace ag:=zA (zq1 (zK ag.out) hb);replace aZ:=zA (zq1 (zK aZ.out) hb);replace HB:=zA (zq0 zB hb);clear hb)|((with_reducible refine zq5 (N:=10) rfl ?_);(try (refine gate_guard zY30 ?_;dsimp only));refine zE (N:=10) (cs:=#[.string bz0,.string bz0]) (t:=24) ?_;intro ey hg mN hbox hb;replace au:=zA (Kd.z2 (zVR au.out) hb);replace cz:=zA (Kd.z2 (Kd.R_elderB (zVR cz.out) ey (Nat.le_of_eq hg.symm)) hb);have mX:=zA hbox;have EF:=zA (zS hg:w.heap.size≤ey);have EG:=zA (zS hg:w.heap.size≤ey);replace HB:=zA (zq0 zB hb);have uN:=zA (zNlt hg (zK ag.out):aV≠ey);have uO:=zA (zNgt hg (zK ag.out):ey≠aV);replace ag:=zA (zq1 (zK ag.out) hb);have uP:=zA (zNlt hg (zK aZ.out):d2≠ey);have uQ:=zA (zNgt hg (zK aZ.out):ey≠d2);replace aZ:=zA (zq1 (zK aZ.out) hb);clear hb hbox hg;have zk:=uO.out;have zl:=uN.out;have MM:=uQ.out;have MN:=uP.out;obtain ⟨EH,EI⟩:=zc2 mX.out;obtain ⟨EJ,EK⟩:=zf2 mX.out;have zm:=kQ.out;have zo:=kP.out;obtain ⟨oq,ot,ou,ov⟩:=zc4 aZ.out;obtain ⟨ow,ox,oy,oz⟩:=zf4 aZ.out;obtain ⟨EL,EM,EN,EO⟩:=zc4 ag.out;obtain ⟨EP,EQ,ER,ES⟩:=zf4 ag.out;obtain ⟨zq,zs,ET⟩:=Kd.z9 cz.out;subst ET))
         refine bodyPost_ret (zq13 rfl _ _ aV 28 #[.string eH,.string eI,.slice zq eJ.length zs,.slice none 0 0] (0,0) _ rfl (zG ag.out) Tryz.underlying28 rfl zY2) rfl ?_
         exact ⟨_,_,zT,by (with_reducible repeat (first|apply Kd.z1|apply Kd.z4|apply Kd.z3));exact Kd.z7 (zR4 aV (Kd.z5 (p:=⟨ey,1,none⟩) (Kd.z5 (p:=⟨ey,0,none⟩) (Kd.z10 (Kd.z7 cz.out (fun k_ hk=>(⟨hk,hk.2⟩:_∧k_≠ey))) ag.out zY4) (fun _ hk=>hk.1.2) (.string b7)) (fun _ hk=>hk.1.2) (.string cV)) (.string eH) (.string eI) (.slice zq eJ.length zs) (.slice none 0 0)) (fun _ hk=>trivial),zNil,zB⟩
        subst fE
        rw [if_pos rfl] at H
        have H':=zA H
        clear H
        go_wp2_with (first|((with_reducible refine zq2 (f:=81) rfl ?_);refine zq4 (some 61) rfl rfl Tryz.func81 zY2 rfl #[.string ((rdOf ByteArray.empty ai aq).extract 5 (rdOf ByteArray.empty ai aq).size)] rfl zY0 ?_;(with_reducible refine (spec_AddrGet.calls kj17 ((rdOf ByteArray.empty ai aq).extract 5 (rdOf ByteArray.empty ai aq).size) b7 cV true _ qB.out).mono ?_);rintro e eG ⟨rfl,hb⟩;refine ⟨_,rfl,?_⟩;replace au:=zA (Kd.z2 (zVR au.out) hb);replace cz:=zA (Kd.z2 (zVR cz.out) hb);replace ag:=zA (zq1 (zK ag.out) hb);replace aZ:=zA (zq1 (zK aZ.out) hb);replace HB:=zA (zq0 zB hb);clear hb)|((with_reducible refine zq5 (N:=10) rfl ?_);(try (refine gate_guard zY30 ?_;dsimp only));refine zE (N:=10) (cs:=#[.string bz0,.string bz0]) (t:=24) ?_;intro ey hg gb hbox hb;replace au:=zA (Kd.z2 (zVR au.out) hb);replace cz:=zA (Kd.z2 (Kd.R_elderB (zVR cz.out) ey (Nat.le_of_eq hg.symm)) hb);have mX:=zA hbox;have EF:=zA (zS hg:w.heap.size≤ey);have EG:=zA (zS hg:w.heap.size≤ey);replace HB:=zA (zq0 zB hb);have uN:=zA (zNlt hg (zK ag.out):aV≠ey);have uO:=zA (zNgt hg (zK ag.out):ey≠aV);replace ag:=zA (zq1 (zK ag.out) hb);have uP:=zA (zNlt hg (zK aZ.out):d2≠ey);have uQ:=zA (zNgt hg (zK aZ.out):ey≠d2);replace aZ:=zA (zq1 (zK aZ.out) hb);clear hb hbox hg;have uR:=uO.out;have uS:=uN.out;have sU:=uQ.out;have sV:=uP.out;obtain ⟨qO,qP⟩:=zc2 mX.out;obtain ⟨qQ,qR⟩:=zf2 mX.out;have EU:=kQ.out;have EV:=kP.out;obtain ⟨EW,EX,EY,EZ⟩:=zc4 aZ.out;obtain ⟨E0,E1,E2,E3⟩:=zf4 aZ.out))
        go_roundg kj17
        case measure=>have:=HK1.out;have:=HJ9.out;have:=HJ17.out;omega
        case rel=>exact ⟨((wrap64 ((wrap64 (aU+((rdOf ByteArray.empty ai aq).size:Int)))+2))),(wrap64 (aq+1)),(fk),(fl),(b7),(cV),(eJ),(u163002),zY3,zY3,H',⟨by have:=HK1.out;have:=HJ9.out;have:=HJ17.out;omega⟩,⟨by (with_reducible repeat (first|apply Kd.z1|apply Kd.z4|apply Kd.z3));exact Kd.z7 (zR2 d2 (Kd.z5 (p:=⟨ey,1,none⟩) (Kd.z5 (p:=⟨ey,0,none⟩) (Kd.z10 (Kd.z10 au.out mX.out zY4) aZ.out zY4) (fun _ hk=>hk.1.2) (.string b7)) (fun _ hk=>hk.1.2) (.string cV)) (.string b7) (.string cV)) (fun _ hk=>trivial)⟩,⟨by (with_reducible repeat (first|apply Kd.z1|apply Kd.z4|apply Kd.z3));exact Kd.z7 (zR2 d2 (Kd.z5 (p:=⟨ey,1,none⟩) (Kd.z5 (p:=⟨ey,0,none⟩) (Kd.z10 (Kd.z7 cz.out (fun k_ hk=>(⟨hk,hk.2⟩:_∧k_≠ey))) aZ.out zY4) (fun _ hk=>hk.1.2) (.string b7)) (fun _ hk=>hk.1.2) (.string cV)) (.string b7) (.string cV)) (fun _ hk=>trivial)⟩,⟨zG ag.out⟩,⟨zG aZ.out⟩,⟨zB⟩⟩
       replace g5:=Bool.eq_false_iff.mpr g5
       subst g5
       rw [if_neg zfn] at H
       have uT:=zA H
       clear H
       go_upto_region 17 with (fail)
       go_cut [69] (fun E4 wc=>∃ (kq:Nat) (qS:Bool),E4=.bool qS∧Aside0 (spec_l2Get.j3 kq ai (wrap64 ((wrap64 (aU+((rdOf ByteArray.empty ai aq).size:Int)))+2)) aq (rdOf ByteArray.empty ai aq) qS eH eI eJ=some (r1,r2,r3,r4,r5))∧Aside0 (kq≤kj17)∧Aside0 (Kd.R Kd.string 9 wc w.heap.size (fun _=>True) (.slice (some uH) ai.length iz) ai)∧Aside0 (Kd.R k24 24 wc w.heap.size (fun _=>True) u163002 eJ)∧Aside0 (wc.heap[aV]?=some (.cells #[.string fk,.string fl,(.slice none 0 0),(.slice none 0 0)] 28 (0,0)))∧Aside0 (wc.heap[d2]?=some (.cells #[.string eH,.string eI,u163002,(.slice none 0 0)] 28 (0,0)))∧Aside0 (Below w.heap.size w wc))
       case first =>
        have H:=uT.out
        clear uT
        by_cases iA:aq > 0
        rotate_left
        ·rw [if_neg iA] at H
         have c44b0:decide (0 < aq)=false:=decide_eq_false iA
         clear iA
         (first|rw [c44b0]|(simp only [i64_w,i32_w];rw [c44b0])|skip)
         have H':=zA H
         clear H
         go_wp2
         go_meet
         case rel=>exact ⟨_,(false),zY3,H',⟨by have:=HK1.out;have:=HJ9.out;have:=HJ17.out;first|omega|exact Nat.le_refl _⟩,⟨zVR au.out⟩,⟨zVR cz.out⟩,⟨zK ag.out⟩,⟨zK aZ.out⟩,⟨zB⟩⟩
        rw [if_pos iA] at H
        have c44b0:decide (0 < aq)=true:=decide_eq_true iA
        clear iA
        (first|rw [c44b0]|(simp only [i64_w,i32_w];rw [c44b0])|skip)
        by_cases hO:((rdOf ByteArray.empty ai aq).size:Int) > 3
        rotate_left
        ·rw [if_neg hO] at H
         have c45b0:decide (3 < ((rdOf ByteArray.empty ai aq).size:Int))=false:=decide_eq_false hO
         have c45b1:decide (3 < (rdOf ByteArray.empty ai aq).size)=false:=decide_eq_false zY6
         clear hO
         have H':=zA H
         clear H
         go_wp2
         go_meet
         case rel=>exact ⟨_,(false),zY3,H',⟨by have:=HK1.out;have:=HJ9.out;have:=HJ17.out;first|omega|exact Nat.le_refl _⟩,⟨zVR au.out⟩,⟨zVR cz.out⟩,⟨zK ag.out⟩,⟨zK aZ.out⟩,⟨zB⟩⟩
        rw [if_pos hO] at H
        have c45b0:decide (3 < ((rdOf ByteArray.empty ai aq).size:Int))=true:=decide_eq_true hO
        have c45b1:decide (3 < (rdOf ByteArray.empty ai aq).size)=true:=decide_eq_true zY6
        clear hO
        obtain ⟨l6,H⟩:=zp H
        have c46b0:=eq_true l6
        have c46b1:decide (0≤3)=true:=decide_eq_true l6
        clear l6
        obtain ⟨eT,H⟩:=zp H
        have c47b0:=eq_true eT
        have c47b1:decide (3≤((rdOf ByteArray.empty ai aq).size:Int))=true:=decide_eq_true eT
        clear eT
        have H':=zA H
        clear H
        go_wp2
        go_meet
        case rel=>exact ⟨_,((((rdOf ByteArray.empty ai aq).extract 0 3).toList==([116,111,32]:List UInt8))),zY3,H',⟨by have:=HK1.out;have:=HJ9.out;have:=HJ17.out;first|omega|exact Nat.le_refl _⟩,⟨zVR au.out⟩,⟨zVR cz.out⟩,⟨zK ag.out⟩,⟨zK aZ.out⟩,⟨zB⟩⟩
       case rest =>
        clear uT
        try clear c1
        try clear p1
        try clear q1
        try clear lr
        try clear c2
        try clear p2
        try clear c3
        try clear c4
        try clear c6
        try clear p6
        try clear c8
        try clear c8b0
        try clear c9
        try clear c9b0
        try clear bH
        try clear c12b0
        try clear c12b1
        try clear bj
        try clear bB
        try clear ck
        try clear zi
        try clear zj
        try clear EE
        try clear cL
        try clear c19b0
        try clear c19b1
        try clear ch
        try clear c20b0
        try clear c20b1
        try clear dQ
        try clear c21b0
        try clear c21b1
        try clear cI
        try clear c22b0
        try clear c22b1
        try clear g5
        try clear gi
        try clear c24b0
        try clear c24b1
        try clear fE
        try clear lM
        try clear fm
        try clear qT
        try clear gj
        try clear iu
        try clear f5
        try clear iA
        try clear c44b0
        try clear hO
        try clear c45b0
        try clear c45b1
        try clear l6
        try clear c46b0
        try clear c46b1
        try clear eT
        try clear c47b0
        try clear c47b1
        try clear qF qG qH qI
        try clear oe of_ og oh
        try clear qO qP
        try clear EW EX EY EZ
        try clear EH EI
        try clear oq ot ou ov
        try clear EL EM EN EO
        try clear ky kz kA kB
        try clear qJ qK qL qM
        try clear ol om on_ oo
        try clear qQ qR
        try clear E0 E1 E2 E3
        try clear EJ EK
        try clear ow ox oy oz
        try clear EP EQ ER ES
        try clear kC kD kE kF
        try clear uI
        try clear p1
        try clear zi
        try clear mV
        try clear p2
        try clear p6
        try clear q1
        try clear zj
        try clear mW
        obtain ⟨kq,qS,rfl,HA,HJ42,au,cz,ag,aZ,HB⟩:=hcut
        cases kq with
        | zero=>exact absurd HA.out (by simp [spec_l2Get.j3])
        | succ kj42 =>
         have H:=HA.out
         clear HA
         simp only [spec_l2Get.j3] at H
         by_cases jH:qS=true
         rotate_left
         ·replace jH:=Bool.eq_false_iff.mpr jH
          subst jH
          rw [if_neg zfn] at H
          simp only [Option.some.injEq,Prod.mk.injEq] at H
          obtain ⟨rfl,rfl,rfl,rfl,rfl⟩:=H
          have MO:=kQ.out
          have MP:=kP.out
          obtain ⟨_,_,_,_⟩:=zc4 aZ.out
          obtain ⟨_,_,_,_⟩:=zf4 aZ.out
          obtain ⟨_,_,_,_⟩:=zc4 ag.out
          obtain ⟨_,_,_,_⟩:=zf4 ag.out
          obtain ⟨zt,zu,E5⟩:=Kd.z9 cz.out
          subst E5
          go_wp2
          refine bodyPost_ret (zq13 rfl _ _ aV 28 #[.string eH,.string eI,.slice zt eJ.length zu,.slice none 0 0] (0,0) _ rfl (zG ag.out) Tryz.underlying28 rfl zY2) rfl ?_
          exact ⟨_,_,zT,by (with_reducible repeat (first|apply Kd.z1|apply Kd.z4|apply Kd.z3));exact Kd.z7 (zR4 aV (Kd.z10 cz.out ag.out zY4) (.string eH) (.string eI) (.slice zt eJ.length zu) (.slice none 0 0)) (fun _ hk=>trivial),zNil,zB⟩
         subst jH
         rw [if_pos rfl] at H
         obtain ⟨uU,H⟩:=zp H
         have c49b0:=eq_true uU
         have c49b1:decide (3≤((rdOf ByteArray.empty ai aq).size:Int))=true:=decide_eq_true uU
         clear uU
         replace H:=Option.bind_eq_some_iff.mp H
         obtain ⟨⟨b8,bZ,cB⟩,zv,H⟩:=H
         try dsimp only at H
         have dS:=zA zv
         clear zv
         by_cases oA:cB=true
         rotate_left
         ·replace oA:=Bool.eq_false_iff.mpr oA
          subst oA
          rw [if_neg zfn] at H
          simp only [Option.some.injEq,Prod.mk.injEq] at H
          obtain ⟨rfl,rfl,rfl,rfl,rfl⟩:=H
          go_wp2_with (first|((with_reducible refine zq2 (f:=81) rfl ?_);refine zq4 (some 85) rfl rfl Tryz.func81 zY2 rfl #[.string ((rdOf ByteArray.empty ai aq).extract 3 (rdOf ByteArray.empty ai aq).size)] rfl zY0 ?_;(with_reducible refine (spec_AddrGet.calls kj42 ((rdOf ByteArray.empty ai aq).extract 3 (rdOf ByteArray.empty ai aq).size) b8 bZ false _ dS.out).mono ?_);rintro e E6 ⟨rfl,hb⟩;refine ⟨_,rfl,?_⟩;replace au:=zA (Kd.z2 (zVR au.out) hb);replace cz:=zA (Kd.z2 (zVR cz.out) hb);replace ag:=zA (zq1 (zK ag.out) hb);replace aZ:=zA (zq1 (zK aZ.out) hb);replace HB:=zA (zq0 zB hb);clear hb)|((with_reducible refine zq5 (N:=12) rfl ?_);(try (refine gate_guard zY30 ?_;dsimp only));refine zE (N:=12) (cs:=#[.string bz0,.string bz0]) (t:=24) ?_;intro ee hg uV hbox hb;replace au:=zA (Kd.z2 (zVR au.out) hb);replace cz:=zA (Kd.z2 (Kd.R_elderB (zVR cz.out) ee (Nat.le_of_eq hg.symm)) hb);have jb:=zA hbox;have E7:=zA (zS hg:w.heap.size≤ee);have E8:=zA (zS hg:w.heap.size≤ee);replace HB:=zA (zq0 zB hb);have uW:=zA (zNlt hg (zK ag.out):aV≠ee);have uX:=zA (zNgt hg (zK ag.out):ee≠aV);replace ag:=zA (zq1 (zK ag.out) hb);have uY:=zA (zNlt hg (zK aZ.out):d2≠ee);have uZ:=zA (zNgt hg (zK aZ.out):ee≠d2);replace aZ:=zA (zq1 (zK aZ.out) hb);clear hb hbox hg;have E9:=uX.out;have Fa:=uW.out;have MQ:=uZ.out;have MR:=uY.out;obtain ⟨_,_⟩:=zc2 jb.out;obtain ⟨_,_⟩:=zf2 jb.out;have zw:=kQ.out;have zx:=kP.out;obtain ⟨_,_,_,_⟩:=zc4 aZ.out;obtain ⟨_,_,_,_⟩:=zf4 aZ.out;obtain ⟨_,_,_,_⟩:=zc4 ag.out;obtain ⟨_,_,_,_⟩:=zf4 ag.out;obtain ⟨zy,zz,Fb⟩:=Kd.z9 cz.out;subst Fb))
          refine bodyPost_ret (zq13 rfl _ _ aV 28 #[.string eH,.string eI,.slice zy eJ.length zz,.slice none 0 0] (0,0) _ rfl (zG ag.out) Tryz.underlying28 rfl zY2) rfl ?_
          exact ⟨_,_,zT,by (with_reducible repeat (first|apply Kd.z1|apply Kd.z4|apply Kd.z3));exact Kd.z7 (zR4 aV (Kd.z5 (p:=⟨ee,1,none⟩) (Kd.z5 (p:=⟨ee,0,none⟩) (Kd.z10 (Kd.z7 cz.out (fun k_ hk=>(⟨hk,hk.2⟩:_∧k_≠ee))) ag.out zY4) (fun _ hk=>hk.1.2) (.string b8)) (fun _ hk=>hk.1.2) (.string bZ)) (.string eH) (.string eI) (.slice zy eJ.length zz) (.slice none 0 0)) (fun _ hk=>trivial),zNil,zB⟩
         subst oA
         rw [if_pos rfl] at H
         obtain ⟨gA,H⟩:=zp H
         have LMc52:=zA gA
         clear gA
         obtain ⟨oB,va⟩:∃ y_:List (S24),y_=(eJ++[(⟨b8,bZ⟩:S24)]):=⟨_,rfl⟩
         replace H:(spec_l2Get.l0 kj42 ai (wrap64 ((wrap64 (aU+((rdOf ByteArray.empty ai aq).size:Int)))+2)) (wrap64 (aq+1)) eH eI oB)=some (r1,r2,r3,r4,r5):=zX va H
         have Fc:=zA va
         clear va
         have H':=zA H
         clear H
         go_wp2_with (first|((with_reducible refine zq2 (f:=81) rfl ?_);refine zq4 (some 85) rfl rfl Tryz.func81 zY2 rfl #[.string ((rdOf ByteArray.empty ai aq).extract 3 (rdOf ByteArray.empty ai aq).size)] rfl zY0 ?_;(with_reducible refine (spec_AddrGet.calls kj42 ((rdOf ByteArray.empty ai aq).extract 3 (rdOf ByteArray.empty ai aq).size) b8 bZ true _ dS.out).mono ?_);rintro e zD ⟨rfl,hb⟩;refine ⟨_,rfl,?_⟩;replace au:=zA (Kd.z2 (zVR au.out) hb);replace cz:=zA (Kd.z2 (zVR cz.out) hb);replace ag:=zA (zq1 (zK ag.out) hb);replace aZ:=zA (zq1 (zK aZ.out) hb);replace HB:=zA (zq0 zB hb);clear hb)|((with_reducible refine zq5 (N:=12) rfl ?_);(try (refine gate_guard zY30 ?_;dsimp only));refine zE (N:=12) (cs:=#[.string bz0,.string bz0]) (t:=24) ?_;intro ee hg Fd hbox hb;replace au:=zA (Kd.z2 (zVR au.out) hb);replace cz:=zA (Kd.z2 (Kd.R_elderB (zVR cz.out) ee (Nat.le_of_eq hg.symm)) hb);have jb:=zA hbox;have E7:=zA (zS hg:w.heap.size≤ee);have E8:=zA (zS hg:w.heap.size≤ee);replace HB:=zA (zq0 zB hb);have uW:=zA (zNlt hg (zK ag.out):aV≠ee);have uX:=zA (zNgt hg (zK ag.out):ee≠aV);replace ag:=zA (zq1 (zK ag.out) hb);have uY:=zA (zNlt hg (zK aZ.out):d2≠ee);have uZ:=zA (zNgt hg (zK aZ.out):ee≠d2);replace aZ:=zA (zq1 (zK aZ.out) hb);clear hb hbox hg;have Fe:=uX.out;have Ff:=uW.out;have Fg:=uZ.out;have Fh:=uY.out;obtain ⟨_,_⟩:=zc2 jb.out;obtain ⟨_,_⟩:=zf2 jb.out;have Fi:=kQ.out;have Fj:=kP.out;obtain ⟨_,_,_,_⟩:=zc4 aZ.out;obtain ⟨_,_,_,_⟩:=zf4 aZ.out)|((with_reducible refine gate_builtin (b:=.append) (xs:=#[.tmp 92,.tmp 94]) rfl ?_);(try (refine gate_guard zY30 ?_;dsimp only));at_builtin;refine Kd.R_append k24 (w0:=w) w.heap.size rfl (.tmp 92) (.tmp 94) 25 24 (.agg #[(.string ⟨#[]⟩),(.string ⟨#[]⟩)]) 32 rfl Tryz.underlying25 info24 rfl zY4 zY6 u163002 eJ (⟨b8,bZ⟩:S24) [.string b8,.string bZ] (fun k_=>k_≠ee) (fun _=>False) rfl (by first|(go_simp;done)|(go_simp;rfl)) ?aP (fun _ hk=>hk.elim) ?aF ?aO ?aB ?aS ?aL ?_;(case aP=>exact k24_mkM _ _ _ (⟨b8,bZ⟩:S24));(case aB=>exact zB);(case aF=>exact (fun k_ hk=>Kd.freshB (g:=ee) (o:=.cells #[.string b8,.string bZ] 24 (0,0)) (zG jb.out) k_ hk));(case aO=>exact (by (with_reducible repeat (first|apply Kd.z1|apply Kd.z4|apply Kd.z3));exact Kd.z7 (zR2 ee (Kd.z7 cz.out (fun k_ hk=>(⟨hk,hk.2⟩:_∧k_≠ee))) (.string b8) (.string bZ)) (fun _ hk=>hk.1.2)));(case aS=>exact (zq7 zB));(case aL=>have:=LMc52.out;omega);intro MS MT ho hb hg hat;rw [← Fc.out] at ho;have aQ:=zA (Kd.R_over' (by exact zr (Kd.z7 (zR2 ee (Kd.z10 au.out jb.out zY4) (.string b8) (.string bZ)) (fun _ h_=>h_.1))) (Kd.R_typed (by exact zr (Kd.z7 (zR2 ee (Kd.z7 cz.out (fun k_ hk=>(⟨hk,hk.2⟩:_∧k_≠ee))) (.string b8) (.string bZ)) (fun _ h_=>h_.1)))) zY4 hg);have aR:=zA (blk_grown (g:=aV) (o:=.cells #[.string fk,.string fl,.slice none 0 0,.slice none 0 0] 28 (0,0)) (zG ag.out) hg (Kd.R_ne cz.out ag.out zY4));have dV:=zA (blk_grown (g:=d2) (o:=.cells #[.string eH,.string eI,u163002,.slice none 0 0] 28 (0,0)) (zG aZ.out) hg (Kd.R_ne cz.out aZ.out zY4));have gB:=zA (blk_grown (g:=ee) (o:=.cells #[.string b8,.string bZ] 24 (0,0)) (zG jb.out) hg (Kd.R_away cz.out (fun _ hk=>hk.2)));have gC:=zA (hb);have oC:=zA (ho);clear au;clear ag;clear aZ;clear jb;clear HB;clear cz;have au:=aQ;have ag:=aR;have aZ:=dV;have jb:=gB;have HB:=gC;have zF:=oC;clear aQ aR dV gB gC oC;clear ho hb hg hat;obtain ⟨qU,qV,vb⟩:=Kd.z9 zF.out;subst vb;obtain ⟨_,_,_,_⟩:=zc4 aZ.out;obtain ⟨_,_,_,_⟩:=zf4 aZ.out))
         go_roundg kj42
         case measure=>have:=HK1.out;have:=HJ9.out;have:=HJ17.out;have:=HJ42.out;omega
         case rel=>exact ⟨((wrap64 ((wrap64 (aU+((rdOf ByteArray.empty ai aq).size:Int)))+2))),(wrap64 (aq+1)),(fk),(fl),(eH),(eI),(oB),(.slice qU oB.length qV),zY3,zY3,H',⟨by have:=HK1.out;have:=HJ9.out;have:=HJ17.out;have:=HJ42.out;omega⟩,⟨by (with_reducible repeat (first|apply Kd.z1|apply Kd.z4|apply Kd.z3));exact Kd.z7 (Kd.z5 (p:=⟨d2,2,none⟩) (Kd.z10 au.out aZ.out zY4) (fun _ hk=>hk.2) (.slice qU oB.length qV)) (fun _ hk=>trivial)⟩,⟨by (with_reducible repeat (first|apply Kd.z1|apply Kd.z4|apply Kd.z3));exact Kd.z7 (Kd.z5 (p:=⟨d2,2,none⟩) (Kd.z10 zF.out aZ.out zY4) (fun _ hk=>hk.2) (.slice qU oB.length qV)) (fun _ hk=>trivial)⟩,⟨zG ag.out⟩,⟨zG aZ.out⟩,⟨zB⟩⟩
end Go.Proofs.YtjdpdkdhfnpcgaaGreatDoor.Q
