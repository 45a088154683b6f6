/- Of a text of ours what this claim needs. -/
import Derived.Test.YtjdpdkdhfnpcgaaGreatDoorZzFnExactNoteGetSQ0
import Derived.Test.YtjdpdkdhfnpcgaaGreatDoorZzFnExactNoteGetSAu
import Derived.Test.YtjdpdkdhfnpcgaaGreatDoorZzFnExactNoteGetSQ3
import Derived.Test.YtjdpdkdhfnpcgaaGreatDoorZzFnExactNoteGetSQ5
import Derived.Test.YtjdpdkdhfnpcgaaGreatDoorZzFnExactNoteGetSQ6
namespace Go.Proofs.YtjdpdkdhfnpcgaaGreatDoor.Q
open Go.RowKit Go.Proofs.YtjdpdkdhfnpcgaaGreatDoorW.PrintWords Go.Proofs.YtjdpdkdhfnpcgaaGreatDoorW.PrintLast Go.Proofs.YtjdpdkdhfnpcgaaGreatDoorW.PrintMore
attribute [local go_sem] max2_int min2_int max_two min_two max_three min_three max_four min_four
set_option linter.unusedVariables false
set_option linter.unusedSimpArgs false
def spec_l6Ok.j0:Nat→Bool→Int→Int→ByteArray→ByteArray→Int→ByteArray→ByteArray→List (S24)→List ByteArray→Option (Bool)
 | 0,_,_,_,_,_,_,_,_,_,_=>none
 | k+1,x3,tk,tl,tm,tn,to_,Du,Dv,Dw,Dx=>if tk=1 then (if tl=0 then ((spec_l1Null.f tm tn).bind fun jF=>(if jF=true then ((spec_l2Ok.f k Du Dv Dw Dx).bind fun jG=>(if jG=true then ((spec_l1In.f to_ 0 9999).bind fun tq=>(some tq)) else (some false))) else (some false))) else (some false)) else (if tk=2 then (if x3=true then ((spec_l1In.f tl 1 999).bind fun tr=>(if tr=true then ((spec_l1AddrOk.f k tm tn).bind fun tt=>(if tt=true then (some (to_==0)) else (some false))) else (some false))) else (some false)) else (if tk=3 then (if x3=true then ((spec_l1In.f tl 1 999).bind fun tu=>(if tu=true then ((spec_l1AddrOk.f k tm tn).bind fun tv=>(if tv=true then ((spec_l1In.f to_ 0 9999).bind fun tw=>(some tw)) else (some false))) else (some false))) else (some false)) else (some false)))
def spec_l6Ok.f (k:Nat) (aa:Int) (ab:Int) (aC:ByteArray) (aD:ByteArray) (aE:Int) (av:ByteArray) (aw:ByteArray) (al:List (S24)) (an:List ByteArray):Option (Bool):=(spec_l1Null.f av aw).bind fun nJ=>(if nJ=true then (if (al.length:Int)=0 then (spec_l6Ok.j0 k ((an.length:Int)==0) aa ab aC aD aE av aw al an) else (spec_l6Ok.j0 k false aa ab aC aD aE av aw al an)) else (spec_l6Ok.j0 k false aa ab aC aD aE av aw al an))
set_option maxHeartbeats 8000000 in
set_option maxRecDepth 100000 in
theorem spec_l6Ok.calls (k:Nat) (aa:Int) (ab:Int) (aC:ByteArray) (aD:ByteArray) (aE:Int) (av:ByteArray) (aw:ByteArray) (bS:Option Addr) (bT:Nat) (al:List (S24)) (bU:Option Addr) (bV:Nat) (an:List ByteArray) (r:Bool) (w:World) (fK:Kd.C k24 w bS al.length al) (fL:al.length≤bT) (fM:Kd.C Kd.string w bU an.length an) (fN:an.length≤bV) (h:spec_l6Ok.f k aa ab aC aD aE av aw al an=some r) :
 Calls Tryz.prog 25 #[.agg #[.int .i64 aa,.int .i64 ab,.string aC,.string aD,.int .i64 aE,.string av,.string aw,.slice bS al.length bT,.slice bU an.length bV]] w fun e w'=>e=.returned (.bool r)∧Below w.heap.size w w':=by
 have hu30:=Tryz.underlying30
 have hu24:=Tryz.underlying24
 have hu28:=Tryz.underlying28
 have eC:=zA fK
 have eD:=zA fL
 clear fK fL
 have eE:=zA fM
 have eF:=zA fN
 clear fM fN
 have HB:=zA (Below.refl w.heap.size w)
 have H:((spec_l1Null.f av aw).bind fun nJ=>(if nJ=true then (if (al.length:Int)=0 then (spec_l6Ok.j0 k ((an.length:Int)==0) aa ab aC aD aE av aw al an) else (spec_l6Ok.j0 k false aa ab aC aD aE av aw al an)) else (spec_l6Ok.j0 k false aa ab aC aD aE av aw al an)))=some r:=h
 clear h
 have lC:=zA H
 clear H
 go_enter Tryz.func25,Tryz.ntmps25
 go_upto_region 1 with (first|((with_reducible refine zq5 (N:=1) rfl ?_);(try (refine gate_guard zY30 ?_;dsimp only));refine zE (N:=1) (cs:=#[.int .i64 aa,.int .i64 ab,.string aC,.string aD,.int .i64 aE,.string av,.string aw,.slice bS al.length bT,.slice bU an.length bV]) (t:=30) ?_;intro tx hg w3 hbox hb;have bf:=zA hbox;have Mw:=zA (zS hg:w.heap.size≤tx);have Mx:=zA (zS hg:w.heap.size≤tx);replace HB:=zA (zq0 zB hb);clear hb hbox hg))
 (try simp only [Act.put,zL0,zL1,zL2])
 go_cut [3] (fun v3 wc=>∃ (kq:Nat) (ac:Bool),v3=.bool ac∧Aside0 (spec_l6Ok.j0 kq ac aa ab aC aD aE av aw al an=some r)∧Aside0 (kq≤k)∧Aside0 (wc.heap[tx]?=some (.cells #[.int .i64 aa,.int .i64 ab,.string aC,.string aD,.int .i64 aE,.string av,.string aw,(.slice bS al.length bT),(.slice bU an.length bV)] 30 (0,0)))∧Aside0 (Below w.heap.size w wc))
 case first =>
  have H:=lC.out
  clear lC
  replace H:=Option.bind_eq_some_iff.mp H
  obtain ⟨nJ,ci,H⟩:=H
  try dsimp only at H
  have A4:=zA ci
  clear ci
  by_cases c5:nJ=true
  rotate_left
  ·replace c5:=Bool.eq_false_iff.mpr c5
   subst c5
   rw [if_neg zfn] at H
   have H':=zA H
   clear H
   obtain ⟨tz,tA,tB,tC,tD,tE,tF,tG,tH⟩:=zc9 bf.out
   obtain ⟨tI,tJ,tK,tL,tM,tN,tO,tP,tQ⟩:=zf9 bf.out
   go_wp2_with (first|((with_reducible refine zq2 (f:=56) rfl ?_);refine zq4 (some 7) rfl rfl Tryz.func56 zY2 rfl #[.agg #[.string av,.string aw]] rfl zY0 ?_;(with_reducible refine (spec_l1Null.calls av aw false _ A4.out).mono ?_);rintro e jy ⟨rfl,hb⟩;refine ⟨_,rfl,?_⟩;replace bf:=zA (zq1 (zK bf.out) hb);replace HB:=zA (zq0 zB hb);clear hb))
   go_meet
   case rel=>exact ⟨_,(false),zY3,H',⟨by first|omega|exact Nat.le_refl _⟩,⟨zK bf.out⟩,⟨zB⟩⟩
  subst c5
  rw [if_pos rfl] at H
  by_cases c6:(al.length:Int)=0
  ·rw [if_pos c6] at H
   have c6b0:((al.length:Int)==0)=true:=beq_iff_eq.mpr c6
   have c6b1:((al.length:Int) != 0)=false:=bne_eq_false_iff_eq.mpr c6
   clear c6
   (first|rw [c6b0]|(simp only [i64_w,i32_w];rw [c6b0])|skip)
   have H':=zA H
   clear H
   obtain ⟨ky,kz,kA,kB,Dy,Dz,DB,DC,DE⟩:=zc9 bf.out
   obtain ⟨kC,kD,kE,kF,DF,DG,DH,DI,DJ⟩:=zf9 bf.out
   go_wp2_with (first|((with_reducible refine zq2 (f:=56) rfl ?_);refine zq4 (some 7) rfl rfl Tryz.func56 zY2 rfl #[.agg #[.string av,.string aw]] rfl zY0 ?_;(with_reducible refine (spec_l1Null.calls av aw true _ A4.out).mono ?_);rintro e w8 ⟨rfl,hb⟩;refine ⟨_,rfl,?_⟩;replace bf:=zA (zq1 (zK bf.out) hb);replace HB:=zA (zq0 zB hb);clear hb;obtain ⟨tR,tS,tT,tU,tV,tW,tX,tY,tZ⟩:=zc9 bf.out;obtain ⟨t6,t7,t8,ua,ub,uc,ud,ue,uf⟩:=zf9 bf.out))
   go_meet
   case rel=>exact ⟨_,(((an.length:Int)==0)),zY3,H',⟨by first|omega|exact Nat.le_refl _⟩,⟨zK bf.out⟩,⟨zB⟩⟩
  rw [if_neg c6] at H
  have c6b0:((al.length:Int)==0)=false:=beq_eq_false_iff_ne.mpr c6
  have c6b1:((al.length:Int) != 0)=true:=bne_iff_ne.mpr c6
  have c6b2:¬ (al=[]):=fun h_=>c6 (by rw [h_];rfl)
  (first|rw [c6b0]|(simp only [i64_w,i32_w];rw [c6b0])|skip)
  have H':=zA H
  clear H
  obtain ⟨ug,uh,ui,uj,DK,DL,DM,DN,DO⟩:=zc9 bf.out
  obtain ⟨uk,ul,um,un,DP,DQ,DR,DS,DT⟩:=zf9 bf.out
  go_wp2_with (first|((with_reducible refine zq2 (f:=56) rfl ?_);refine zq4 (some 7) rfl rfl Tryz.func56 zY2 rfl #[.agg #[.string av,.string aw]] rfl zY0 ?_;(with_reducible refine (spec_l1Null.calls av aw true _ A4.out).mono ?_);rintro e gv ⟨rfl,hb⟩;refine ⟨_,rfl,?_⟩;replace bf:=zA (zq1 (zK bf.out) hb);replace HB:=zA (zq0 zB hb);clear hb;obtain ⟨lD,lE,lF,lG,nK,nL,nM,nN,nO⟩:=zc9 bf.out;obtain ⟨lH,lI,lJ,lK,nP,nQ,nR,nS,nT⟩:=zf9 bf.out))
  go_meet
  case rel=>exact ⟨_,(false),zY3,H',⟨by first|omega|exact Nat.le_refl _⟩,⟨zK bf.out⟩,⟨zB⟩⟩
 case rest =>
  clear lC
  try clear c2
  try clear p2
  try clear c5
  try clear c6
  try clear c6b0
  try clear c6b1
  try clear c6b2
  try clear ug uh ui uj DK DL DM DN DO
  try clear lD lE lF lG nK nL nM nN nO
  try clear tz tA tB tC tD tE tF tG tH
  try clear ky kz kA kB Dy Dz DB DC DE
  try clear tR tS tT tU tV tW tX tY tZ
  try clear uk ul um un DP DQ DR DS DT
  try clear lH lI lJ lK nP nQ nR nS nT
  try clear tI tJ tK tL tM tN tO tP tQ
  try clear kC kD kE kF DF DG DH DI DJ
  try clear t6 t7 t8 ua ub uc ud ue uf
  obtain ⟨kq,ac,rfl,HA,HJ1,bf,HB⟩:=hcut
  cases kq with
  | zero=>exact absurd HA.out (by simp [spec_l6Ok.j0])
  | succ kj1 =>
   have H:=HA.out
   clear HA
   simp only [spec_l6Ok.j0] at H
   by_cases bW:aa=1
   ·rw [if_pos bW] at H
    have c15b0:(aa==1)=true:=beq_iff_eq.mpr bW
    have c15b1:(aa != 1)=false:=bne_eq_false_iff_eq.mpr bW
    clear bW
    by_cases ck:ab=0
    rotate_left
    ·rw [if_neg ck] at H
     have c16b0:(ab==0)=false:=beq_eq_false_iff_ne.mpr ck
     have c16b1:(ab != 0)=true:=bne_iff_ne.mpr ck
     obtain rfl:=Option.some.inj H
     obtain ⟨_,_,_,_,_,_,_,_,_⟩:=zc9 bf.out
     obtain ⟨_,_,_,_,_,_,_,_,_⟩:=zf9 bf.out
     go_wp2
     go_ret
     exact ⟨zT,zB⟩
    rw [if_pos ck] at H
    have c16b0:(ab==0)=true:=beq_iff_eq.mpr ck
    have c16b1:(ab != 0)=false:=bne_eq_false_iff_eq.mpr ck
    clear ck
    replace H:=Option.bind_eq_some_iff.mp H
    obtain ⟨jF,e8,H⟩:=H
    try dsimp only at H
    have et:=zA e8
    clear e8
    by_cases bK:jF=true
    rotate_left
    ·replace bK:=Bool.eq_false_iff.mpr bK
     subst bK
     rw [if_neg zfn] at H
     obtain rfl:=Option.some.inj H
     obtain ⟨_,_,_,_,_,_,_,_,_⟩:=zc9 bf.out
     obtain ⟨_,_,_,_,_,_,_,_,_⟩:=zf9 bf.out
     go_wp2_with (first|(go_at_call 56;(with_reducible refine (spec_l1Null.calls aC aD false _ et.out).mono ?_);rintro e sR ⟨rfl,hb⟩;replace bf:=zA (zq1 (zK bf.out) hb);replace HB:=zA (zq0 zB hb);clear hb))
     go_ret
     exact ⟨zT,zB⟩
    subst bK
    rw [if_pos rfl] at H
    replace H:=Option.bind_eq_some_iff.mp H
    obtain ⟨jG,fP,H⟩:=H
    try dsimp only at H
    have dE:=zA fP
    clear fP
    by_cases ch:jG=true
    rotate_left
    ·replace ch:=Bool.eq_false_iff.mpr ch
     subst ch
     rw [if_neg zfn] at H
     obtain rfl:=Option.some.inj H
     obtain ⟨_,_,_,_,_,_,_,_,_⟩:=zc9 bf.out
     obtain ⟨_,_,_,_,_,_,_,_,_⟩:=zf9 bf.out
     go_wp2_with (first|(go_at_call 56;(with_reducible refine (spec_l1Null.calls aC aD true _ et.out).mono ?_);rintro e gb ⟨rfl,hb⟩;replace bf:=zA (zq1 (zK bf.out) hb);replace HB:=zA (zq0 zB hb);clear hb;obtain ⟨_,_,_,_,_,_,_,_,_⟩:=zc9 bf.out;obtain ⟨_,_,_,_,_,_,_,_,_⟩:=zf9 bf.out)|(go_at_call 57;(with_reducible refine (spec_l2Ok.calls kj1 av aw _ _ al _ _ an false _ ?side1 ?side2 ?side3 ?side4 dE.out).mono ?_);(case side1=>exact zC (Kd.z0 eC.out HB.out));(case side2=>exact eD.out);(case side3=>exact zC (Kd.z0 eE.out HB.out));(case side4=>exact eF.out);rintro e uo ⟨rfl,hb⟩;replace bf:=zA (zq1 (zK bf.out) hb);replace HB:=zA (zq0 zB hb);clear hb))
     go_ret
     exact ⟨zT,zB⟩
    subst ch
    rw [if_pos rfl] at H
    replace H:=Option.bind_eq_some_iff.mp H
    obtain ⟨tq,ir,H⟩:=H
    try dsimp only at H
    have gW:=zA ir
    clear ir
    obtain rfl:=Option.some.inj H
    obtain ⟨_,_,_,_,_,_,_,_,_⟩:=zc9 bf.out
    obtain ⟨_,_,_,_,_,_,_,_,_⟩:=zf9 bf.out
    go_wp2_with (first|(go_at_call 56;(with_reducible refine (spec_l1Null.calls aC aD true _ et.out).mono ?_);rintro e kI ⟨rfl,hb⟩;replace bf:=zA (zq1 (zK bf.out) hb);replace HB:=zA (zq0 zB hb);clear hb;obtain ⟨_,_,_,_,_,_,_,_,_⟩:=zc9 bf.out;obtain ⟨_,_,_,_,_,_,_,_,_⟩:=zf9 bf.out)|(go_at_call 57;(with_reducible refine (spec_l2Ok.calls kj1 av aw _ _ al _ _ an true _ ?side1 ?side2 ?side3 ?side4 dE.out).mono ?_);(case side1=>exact zC (Kd.z0 eC.out HB.out));(case side2=>exact eD.out);(case side3=>exact zC (Kd.z0 eE.out HB.out));(case side4=>exact eF.out);rintro e jA ⟨rfl,hb⟩;replace bf:=zA (zq1 (zK bf.out) hb);replace HB:=zA (zq0 zB hb);clear hb;obtain ⟨_,_,_,_,_,_,_,_,_⟩:=zc9 bf.out;obtain ⟨_,_,_,_,_,_,_,_,_⟩:=zf9 bf.out)|(go_at_call 58;(with_reducible refine (spec_l1In.calls aE 0 9999 tq _ gW.out).mono ?_);rintro e w' ⟨rfl,⟨nd,rfl⟩⟩))
    go_ret
    exact ⟨zT,zB⟩
   rw [if_neg bW] at H
   have c15b0:(aa==1)=false:=beq_eq_false_iff_ne.mpr bW
   have c15b1:(aa != 1)=true:=bne_iff_ne.mpr bW
   by_cases gY:aa=2
   ·rw [if_pos gY] at H
    have c34b0:(aa==2)=true:=beq_iff_eq.mpr gY
    have c34b1:(aa != 2)=false:=bne_eq_false_iff_eq.mpr gY
    clear gY
    by_cases fD:ac=true
    rotate_left
    ·replace fD:=Bool.eq_false_iff.mpr fD
     subst fD
     rw [if_neg zfn] at H
     obtain rfl:=Option.some.inj H
     obtain ⟨_,_,_,_,_,_,_,_,_⟩:=zc9 bf.out
     obtain ⟨_,_,_,_,_,_,_,_,_⟩:=zf9 bf.out
     go_wp2
     go_ret
     exact ⟨zT,zB⟩
    subst fD
    rw [if_pos rfl] at H
    replace H:=Option.bind_eq_some_iff.mp H
    obtain ⟨tr,yU,H⟩:=H
    try dsimp only at H
    have up:=zA yU
    clear yU
    by_cases iu:tr=true
    rotate_left
    ·replace iu:=Bool.eq_false_iff.mpr iu
     subst iu
     rw [if_neg zfn] at H
     obtain rfl:=Option.some.inj H
     obtain ⟨_,_,_,_,_,_,_,_,_⟩:=zc9 bf.out
     obtain ⟨_,_,_,_,_,_,_,_,_⟩:=zf9 bf.out
     go_wp2_with (first|(go_at_call 58;(with_reducible refine (spec_l1In.calls ab 1 999 false _ up.out).mono ?_);rintro e w' ⟨rfl,⟨nd,rfl⟩⟩))
     go_ret
     exact ⟨zT,zB⟩
    subst iu
    rw [if_pos rfl] at H
    replace H:=Option.bind_eq_some_iff.mp H
    obtain ⟨tt,yV,H⟩:=H
    try dsimp only at H
    have yW:=zA yV
    clear yV
    by_cases f5:tt=true
    rotate_left
    ·replace f5:=Bool.eq_false_iff.mpr f5
     subst f5
     rw [if_neg zfn] at H
     obtain rfl:=Option.some.inj H
     obtain ⟨_,_,_,_,_,_,_,_,_⟩:=zc9 bf.out
     obtain ⟨_,_,_,_,_,_,_,_,_⟩:=zf9 bf.out
     go_wp2_with (first|(go_at_call 58;(with_reducible refine (spec_l1In.calls ab 1 999 true _ up.out).mono ?_);rintro e w' ⟨rfl,⟨nd,rfl⟩⟩)|(go_at_call 59;(with_reducible refine (spec_l1AddrOk.calls kj1 aC aD false _ yW.out).mono ?_);rintro e uq ⟨rfl,hb⟩;replace bf:=zA (zq1 (zK bf.out) hb);replace HB:=zA (zq0 zB hb);clear hb))
     go_ret
     exact ⟨zT,zB⟩
    subst f5
    rw [if_pos rfl] at H
    obtain rfl:=Option.some.inj H
    obtain ⟨_,_,_,_,_,_,_,_,_⟩:=zc9 bf.out
    obtain ⟨_,_,_,_,_,_,_,_,_⟩:=zf9 bf.out
    go_wp2_with (first|(go_at_call 58;(with_reducible refine (spec_l1In.calls ab 1 999 true _ up.out).mono ?_);rintro e w' ⟨rfl,⟨nd,rfl⟩⟩)|(go_at_call 59;(with_reducible refine (spec_l1AddrOk.calls kj1 aC aD true _ yW.out).mono ?_);rintro e le ⟨rfl,hb⟩;replace bf:=zA (zq1 (zK bf.out) hb);replace HB:=zA (zq0 zB hb);clear hb;obtain ⟨_,_,_,_,_,_,_,_,_⟩:=zc9 bf.out;obtain ⟨_,_,_,_,_,_,_,_,_⟩:=zf9 bf.out))
    go_ret
    exact ⟨zT,zB⟩
   rw [if_neg gY] at H
   have c34b0:(aa==2)=false:=beq_eq_false_iff_ne.mpr gY
   have c34b1:(aa != 2)=true:=bne_iff_ne.mpr gY
   by_cases eT:aa=3
   rotate_left
   ·rw [if_neg eT] at H
    have c47b0:(aa==3)=false:=beq_eq_false_iff_ne.mpr eT
    have c47b1:(aa != 3)=true:=bne_iff_ne.mpr eT
    obtain rfl:=Option.some.inj H
    obtain ⟨_,_,_,_,_,_,_,_,_⟩:=zc9 bf.out
    obtain ⟨_,_,_,_,_,_,_,_,_⟩:=zf9 bf.out
    go_wp2
    go_ret
    exact ⟨zT,zB⟩
   rw [if_pos eT] at H
   have c47b0:(aa==3)=true:=beq_iff_eq.mpr eT
   have c47b1:(aa != 3)=false:=bne_eq_false_iff_eq.mpr eT
   clear eT
   by_cases jH:ac=true
   rotate_left
   ·replace jH:=Bool.eq_false_iff.mpr jH
    subst jH
    rw [if_neg zfn] at H
    obtain rfl:=Option.some.inj H
    obtain ⟨_,_,_,_,_,_,_,_,_⟩:=zc9 bf.out
    obtain ⟨_,_,_,_,_,_,_,_,_⟩:=zf9 bf.out
    go_wp2
    go_ret
    exact ⟨zT,zB⟩
   subst jH
   rw [if_pos rfl] at H
   replace H:=Option.bind_eq_some_iff.mp H
   obtain ⟨tu,yX,H⟩:=H
   try dsimp only at H
   have ur:=zA yX
   clear yX
   by_cases qo:tu=true
   rotate_left
   ·replace qo:=Bool.eq_false_iff.mpr qo
    subst qo
    rw [if_neg zfn] at H
    obtain rfl:=Option.some.inj H
    obtain ⟨_,_,_,_,_,_,_,_,_⟩:=zc9 bf.out
    obtain ⟨_,_,_,_,_,_,_,_,_⟩:=zf9 bf.out
    go_wp2_with (first|(go_at_call 58;(with_reducible refine (spec_l1In.calls ab 1 999 false _ ur.out).mono ?_);rintro e w' ⟨rfl,⟨nd,rfl⟩⟩))
    go_ret
    exact ⟨zT,zB⟩
   subst qo
   rw [if_pos rfl] at H
   replace H:=Option.bind_eq_some_iff.mp H
   obtain ⟨tv,nU,H⟩:=H
   try dsimp only at H
   have nV:=zA nU
   clear nU
   by_cases gA:tv=true
   rotate_left
   ·replace gA:=Bool.eq_false_iff.mpr gA
    subst gA
    rw [if_neg zfn] at H
    obtain rfl:=Option.some.inj H
    obtain ⟨_,_,_,_,_,_,_,_,_⟩:=zc9 bf.out
    obtain ⟨_,_,_,_,_,_,_,_,_⟩:=zf9 bf.out
    go_wp2_with (first|(go_at_call 58;(with_reducible refine (spec_l1In.calls ab 1 999 true _ ur.out).mono ?_);rintro e w' ⟨rfl,⟨nd,rfl⟩⟩)|(go_at_call 59;(with_reducible refine (spec_l1AddrOk.calls kj1 aC aD false _ nV.out).mono ?_);rintro e yY ⟨rfl,hb⟩;replace bf:=zA (zq1 (zK bf.out) hb);replace HB:=zA (zq0 zB hb);clear hb))
    go_ret
    exact ⟨zT,zB⟩
   subst gA
   rw [if_pos rfl] at H
   replace H:=Option.bind_eq_some_iff.mp H
   obtain ⟨tw,yZ,H⟩:=H
   try dsimp only at H
   have DU:=zA yZ
   clear yZ
   obtain rfl:=Option.some.inj H
   obtain ⟨_,_,_,_,_,_,_,_,_⟩:=zc9 bf.out
   obtain ⟨_,_,_,_,_,_,_,_,_⟩:=zf9 bf.out
   go_wp2_with (first|(go_at_call 58;(with_reducible refine (spec_l1In.calls ab 1 999 true _ ur.out).mono ?_);rintro e w' ⟨rfl,⟨nd,rfl⟩⟩)|(go_at_call 59;(with_reducible refine (spec_l1AddrOk.calls kj1 aC aD true _ nV.out).mono ?_);rintro e My ⟨rfl,hb⟩;replace bf:=zA (zq1 (zK bf.out) hb);replace HB:=zA (zq0 zB hb);clear hb;obtain ⟨_,_,_,_,_,_,_,_,_⟩:=zc9 bf.out;obtain ⟨_,_,_,_,_,_,_,_,_⟩:=zf9 bf.out)|(go_at_call 58;(with_reducible refine (spec_l1In.calls aE 0 9999 tw _ DU.out).mono ?_);rintro e w' ⟨rfl,⟨nd,rfl⟩⟩))
   go_ret
   exact ⟨zT,zB⟩
end Go.Proofs.YtjdpdkdhfnpcgaaGreatDoor.Q
