/- Of a text of ours what this claim needs. -/
import Derived.Test.YtjdpdkdhfnpcgaaGreatDoorZzFnExactNoteGetSQ0
import Derived.Test.YtjdpdkdhfnpcgaaGreatDoorZzFnExactNoteGetSAu
import Derived.Test.YtjdpdkdhfnpcgaaGreatDoorZzFnExactNoteGetSQ15
import Derived.Test.YtjdpdkdhfnpcgaaGreatDoorZzFnExactNoteGetSQ25
import Derived.Test.YtjdpdkdhfnpcgaaGreatDoorZzFnExactNoteGetSQ26
import Derived.Test.YtjdpdkdhfnpcgaaGreatDoorZzFnExactNoteGetSHSplit
namespace Go.Proofs.YtjdpdkdhfnpcgaaGreatDoor.Q
open Go.RowKit Go.Proofs.YtjdpdkdhfnpcgaaGreatDoorW.PrintWords Go.Proofs.YtjdpdkdhfnpcgaaGreatDoorW.PrintLast Go.Proofs.YtjdpdkdhfnpcgaaGreatDoorW.PrintMore
attribute [local go_sem] max2_int min2_int max_two min_two max_three min_three max_four min_four
set_option linter.unusedVariables false
set_option linter.unusedSimpArgs false
def impl_MailGet.l0:Nat→ByteArray→ByteArray→List ByteArray→Int→Int→ByteArray→ByteArray→List (S24)→Option (ByteArray × ByteArray × (List (S24)) × List ByteArray × Bool)
 | 0,_,_,_,_,_,_,_,_=>none
 | k+1,x0,x5,sc,wQ,mm,wR,wS,pw=>if mm < wQ then (if 0≤mm then (if mm < (sc.length:Int) then ((strings_Cut.f (rdOf ByteArray.empty sc mm) (⟨#[32]⟩:ByteArray)).bind fun Hz=>((impl_AddrGet.f k Hz.2.1).bind fun px=>(if px.2.2=true then (if mm=0 then (impl_MailGet.l0 k x0 x5 sc wQ (wrap64 (mm+1)) px.1 px.2.1 pw) else (if pw.length < 4398046511104 then (impl_MailGet.l0 k x0 x5 sc wQ (wrap64 (mm+1)) wR wS (pw++[(⟨px.1,px.2.1⟩:S24)])) else (none))) else (some ((⟨#[]⟩:ByteArray),(⟨#[]⟩:ByteArray),([]:List (S24)),([]:List ByteArray),false))))) else (none)) else (none)) else ((impl_DotGet.f k x5).bind fun wT=>(if wT.2=true then ((impl_MailPut.f k wR wS pw wT.1).bind fun bG=>(if bG.toList=x0.toList then (some (wR,wS,pw,wT.1,true)) else (some ((⟨#[]⟩:ByteArray),(⟨#[]⟩:ByteArray),([]:List (S24)),([]:List ByteArray),false)))) else (some ((⟨#[]⟩:ByteArray),(⟨#[]⟩:ByteArray),([]:List (S24)),([]:List ByteArray),false))))
def impl_MailGet.f (k:Nat) (a0:ByteArray):Option (ByteArray × ByteArray × (List (S24)) × List ByteArray × Bool):=if (a0.size:Int) > 800 then (some ((⟨#[]⟩:ByteArray),(⟨#[]⟩:ByteArray),([]:List (S24)),([]:List ByteArray),false)) else ((strings_Cut.f a0 (⟨#[13,10,13,10]⟩:ByteArray)).bind fun dK=>(if dK.2.2=true then ((strings_Split.f dK.1 (⟨#[13,10]⟩:ByteArray)).bind fun cf=>(impl_MailGet.l0 k a0 dK.2.1 cf (cf.length:Int) 0 (⟨#[]⟩:ByteArray) (⟨#[]⟩:ByteArray) ([]:List (S24)))) else (some ((⟨#[]⟩:ByteArray),(⟨#[]⟩:ByteArray),([]:List (S24)),([]:List ByteArray),false))))
set_option maxHeartbeats 8000000 in
set_option maxRecDepth 100000 in
theorem impl_MailGet.calls (k:Nat) (a0:ByteArray) (r1:ByteArray) (r2:ByteArray) (r3:List (S24)) (r4:List ByteArray) (r5:Bool) (w:World) (hG:GOK w) (h:impl_MailGet.f k a0=some (r1,r2,r3,r4,r5)) :
 Calls Tryz.prog 35 #[.string a0] w fun e w'=>∃ kN kO:Value,e=.returned (.tuple #[.agg #[.string r1,.string r2,kN,kO],.bool r5])∧Kd.R k24 24 w' w.heap.size (fun _=>True) kN r3∧Kd.R Kd.string 9 w' w.heap.size (fun _=>True) kO r4∧Below w.heap.size w w':=by
 have hu28:=Tryz.underlying28
 have hu24:=Tryz.underlying24
 have HG:=zA hG
 clear hG
 have HB:=zA (Below.refl w.heap.size w)
 have H:(if (a0.size:Int) > 800 then (some (bz0,bz0,([]:List (S24)),([]:List ByteArray),false)) else ((strings_Cut.f a0 bz14).bind fun dK=>(if dK.2.2=true then ((strings_Split.f dK.1 bz5).bind fun cf=>(impl_MailGet.l0 k a0 dK.2.1 cf (cf.length:Int) 0 bz0 bz0 ([]:List (S24)))) else (some (bz0,bz0,([]:List (S24)),([]:List ByteArray),false)))))=some (r1,r2,r3,r4,r5):=h
 clear h
 by_cases c2:(a0.size:Int) > 800
 ·rw [if_pos c2] at H
  have c2b0:decide (800 < (a0.size:Int))=true:=decide_eq_true c2
  have c2b1:decide (800 < a0.size)=true:=decide_eq_true zY6
  clear c2
  simp only [Option.some.injEq,Prod.mk.injEq] at H
  obtain ⟨rfl,rfl,rfl,rfl,rfl⟩:=H
  go_enter Tryz.func35,Tryz.ntmps35
  go_wp2_with (first|((with_reducible refine zq5 (N:=2) rfl ?_);refine zE (N:=2) (cs:=#[.string bz0,.string bz0,.slice none 0 0,.slice none 0 0]) (t:=28) ?_;intro aV hg w3 hbox hb;have ag:=zA hbox;have iV:=zA (zS hg:w.heap.size≤aV);have lX:=zA (zS hg:w.heap.size≤aV);replace HB:=zA (zq0 zB hb);clear hb hbox hg;obtain ⟨mR,mS,se,sf⟩:=zc4 ag.out;obtain ⟨mT,mU,sg,sh⟩:=zf4 ag.out))
  refine bodyPost_ret (zq13 rfl _ _ aV 28 #[.string bz0,.string bz0,.slice none 0 0,.slice none 0 0] (0,0) _ rfl (zG ag.out) Tryz.underlying28 rfl zY2) rfl ?_
  exact ⟨_,_,zT,zNil,zNil,zB⟩
 rw [if_neg c2] at H
 have c2b0:decide (800 < (a0.size:Int))=false:=decide_eq_false c2
 have c2b1:decide (800 < a0.size)=false:=decide_eq_false zY6
 clear c2
 replace H:=Option.bind_eq_some_iff.mp H
 obtain ⟨⟨ai,cn,cp⟩,dS,H⟩:=H
 try dsimp only at H
 have A5:=zA dS
 clear dS
 by_cases c6:cp=true
 rotate_left
 ·replace c6:=Bool.eq_false_iff.mpr c6
  subst c6
  rw [if_neg zfn] at H
  simp only [Option.some.injEq,Prod.mk.injEq] at H
  obtain ⟨rfl,rfl,rfl,rfl,rfl⟩:=H
  go_enter Tryz.func35,Tryz.ntmps35
  go_wp2_with (first|((with_reducible refine zq5 (N:=2) rfl ?_);refine zE (N:=2) (cs:=#[.string bz0,.string bz0,.slice none 0 0,.slice none 0 0]) (t:=28) ?_;intro aV hg py hbox hb;have ag:=zA hbox;have iV:=zA (zS hg:w.heap.size≤aV);have lX:=zA (zS hg:w.heap.size≤aV);replace HB:=zA (zq0 zB hb);clear hb hbox hg)|((with_reducible refine zq2 (f:=33) rfl ?_);refine zq4 (some 21) rfl rfl Tryz.func33 zY2 rfl #[.string a0,.string bz14] rfl zY0 ?_;(with_reducible refine (strings_Cut.calls a0 bz14 ai cn false _ ?side1 A5.out).mono ?_);(case side1=>exact zg);rintro e w' ⟨rfl,⟨nd,rfl⟩⟩;refine ⟨_,rfl,?_⟩;(try (rw [drewN_self py];generalize hq_:World.drewN py _=py;have aQ:Aside0 (py.heap[aV]?=some (.cells #[.string bz0,.string bz0,.slice none 0 0,.slice none 0 0] 28 (0,0))):=⟨by rw [← hq_];exact (zK ag.out)⟩;have aR:Aside0 (Below w.heap.size w py):=⟨by rw [← hq_];exact zB⟩;clear ag HB hq_;have ag:=aQ;have HB:=aR;clear aQ aR));obtain ⟨_,_,_,_⟩:=zc4 ag.out;obtain ⟨_,_,_,_⟩:=zf4 ag.out))
  refine bodyPost_ret (zq13 rfl _ _ aV 28 #[.string bz0,.string bz0,.slice none 0 0,.slice none 0 0] (0,0) _ rfl (zG ag.out) Tryz.underlying28 rfl zY2) rfl ?_
  exact ⟨_,_,zT,zNil,zNil,zB⟩
 subst c6
 rw [if_pos rfl] at H
 replace H:=Option.bind_eq_some_iff.mp H
 obtain ⟨cf,fI,H⟩:=H
 try dsimp only at H
 have A7:=zA fI
 clear fI
 have H':=zA H
 clear H
 go_enter Tryz.func35,Tryz.ntmps35
 go_wp2_with (first|((with_reducible refine zq5 (N:=2) rfl ?_);refine zE (N:=2) (cs:=#[.string bz0,.string bz0,.slice none 0 0,.slice none 0 0]) (t:=28) ?_;intro aV hg w8 hbox hb;have ag:=zA hbox;have iV:=zA (zS hg:w.heap.size≤aV);have lX:=zA (zS hg:w.heap.size≤aV);replace HB:=zA (zq0 zB hb);clear hb hbox hg)|((with_reducible refine zq2 (f:=33) rfl ?_);refine zq4 (some 21) rfl rfl Tryz.func33 zY2 rfl #[.string a0,.string bz14] rfl zY0 ?_;(with_reducible refine (strings_Cut.calls a0 bz14 ai cn true _ ?side1 A5.out).mono ?_);(case side1=>exact zg);rintro e w' ⟨rfl,⟨nd,rfl⟩⟩;refine ⟨_,rfl,?_⟩)|((with_reducible refine zq5 (N:=7) rfl ?_);refine zE (N:=7) (cs:=#[.string bz0,.string bz0,.slice none 0 0,.slice none 0 0]) (t:=28) ?_;intro dL hg w9 hbox hb;have ba:=zA hbox;have NJ:=zA (zS hg:w.heap.size≤dL);have NK:=zA (zS hg:w.heap.size≤dL);replace HB:=zA (zq0 zB hb);have nb:=zA (zNlt hg (zK ag.out):aV≠dL);have nc:=zA (zNgt hg (zK ag.out):dL≠aV);replace ag:=zA (zq1 (zK ag.out) hb);clear hb hbox hg)|((with_reducible refine zq2 (f:=36) rfl ?_);refine zq4 (some 29) rfl rfl Tryz.func36 zY2 rfl #[.string ai,.string bz5] rfl zY0 ?_;(with_reducible refine (strings_Split.calls ai bz5 cf _ ?side1 A7.out).mono ?_);(case side1=>exact zg);rintro e cv ⟨NL,rfl,ar,hb⟩;refine ⟨_,rfl,?_⟩;have AT:=zA (Kd.z6 ar (zq7 zB));replace ag:=zA (zq1 (zK ag.out) hb);replace ba:=zA (zq1 (zK ba.out) hb);replace HB:=zA (zq0 zB hb);clear hb ar;obtain ⟨oc,iz,od⟩:=Kd.z9 AT.out;subst od))
 go_loopg [31] k (fun kq HC w'=>∃ (dM:Int) (fk:ByteArray) (fl:ByteArray) (f6:ByteArray) (f7:ByteArray) (fG:List (S24)) (u162002:Value),HC=.int .i64 dM∧Aside0 (impl_MailGet.l0 kq a0 cn cf (cf.length:Int) dM f6 f7 fG=some (r1,r2,r3,r4,r5))∧Aside0 (kq≤k)∧Aside0 (Kd.R Kd.string 9 w' w.heap.size (fun _=>True) (.slice oc cf.length iz) cf)∧Aside0 (Kd.R k24 24 w' w.heap.size (fun _=>True) u162002 fG)∧Aside0 (w'.heap[aV]?=some (.cells #[.string fk,.string fl,(.slice none 0 0),(.slice none 0 0)] 28 (0,0)))∧Aside0 (w'.heap[dL]?=some (.cells #[.string f6,.string f7,u162002,(.slice none 0 0)] 28 (0,0)))∧Aside0 (Below w.heap.size w w'))
 case atStart=>exact ⟨(0),(bz0),(bz0),(bz0),(bz0),(([]:List (S24))),(.slice none 0 0),zY3,H',⟨Nat.le_refl _⟩,⟨zVR AT.out⟩,⟨zNil⟩,⟨zK ag.out⟩,⟨zK ba.out⟩,⟨zB⟩⟩
 case round =>
  clear H'
  try clear c2
  try clear c2b0
  try clear c2b1
  try clear p2
  try clear c3
  try clear c6
  try clear mR mS se sf
  try clear mT mU sg sh
  obtain ⟨dM,fk,fl,f6,f7,fG,u162002,rfl,HA,HK1,cH,cy,ag,ba,HB⟩:=hrel
  cases gk with
  | zero=>exact absurd HA.out (by simp [impl_MailGet.l0])
  | succ k1 =>
   have H:=HA.out
   clear HA
   simp only [impl_MailGet.l0] at H
   by_cases bH:dM < (cf.length:Int)
   rotate_left
   ·rw [if_neg bH] at H
    have c12b0:decide (dM < (cf.length:Int))=false:=decide_eq_false bH
    clear bH
    replace H:=Option.bind_eq_some_iff.mp H
    obtain ⟨⟨eN,cN⟩,AU,H⟩:=H
    try dsimp only at H
    have wU:=zA AU
    clear AU
    by_cases hO:cN=true
    rotate_left
    ·replace hO:=Bool.eq_false_iff.mpr hO
     subst hO
     rw [if_neg zfn] at H
     simp only [Option.some.injEq,Prod.mk.injEq] at H
     obtain ⟨rfl,rfl,rfl,rfl,rfl⟩:=H
     go_wp2_with (first|((with_reducible refine zq2 (f:=72) rfl ?_);refine zq4 (some 65) rfl rfl Tryz.func72 zY2 rfl #[.string cn] rfl zY0 ?_;(with_reducible refine (impl_DotGet.calls k1 cn eN false _ ?side1 wU.out).mono ?_);(case side1=>exact zg);rintro e E6 ⟨AV,rfl,ar,hb⟩;refine ⟨_,rfl,?_⟩;replace cy:=zA (Kd.z2 (zVR cy.out) hb);have gH:=zA (Kd.z6 (Kd.R_new' ar (Kd.R_lt (zVR cH.out))) (zq7 zB));replace cH:=zA (Kd.R_elder' (zVR cH.out) (Kd.R_base ar) hb);replace ag:=zA (zq1 (zK ag.out) hb);replace ba:=zA (zq1 (zK ba.out) hb);replace HB:=zA (zq0 zB hb);clear hb ar;obtain ⟨NM,NN,HD⟩:=Kd.z9 gH.out;subst HD;have E9:=nc.out;have Fa:=nb.out;obtain ⟨_,_,_,_⟩:=zc4 ba.out;obtain ⟨_,_,_,_⟩:=zf4 ba.out;obtain ⟨_,_,_,_⟩:=zc4 ag.out;obtain ⟨_,_,_,_⟩:=zf4 ag.out))
     refine bodyPost_ret (zq13 rfl _ _ aV 28 #[.string bz0,.string bz0,.slice none 0 0,.slice none 0 0] (0,0) _ rfl (zG ag.out) Tryz.underlying28 rfl zY2) rfl ?_
     exact ⟨_,_,zT,zNil,zNil,zB⟩
    subst hO
    rw [if_pos rfl] at H
    replace H:=Option.bind_eq_some_iff.mp H
    obtain ⟨bG,AW,H⟩:=H
    try dsimp only at H
    have AX:=zA AW
    clear AW
    by_cases eT:bG.toList=a0.toList
    rotate_left
    ·rw [if_neg eT] at H
     have c47b0:(bG.toList==a0.toList)=false:=beq_eq_false_iff_ne.mpr eT
     have c47b1:(bG.toList != a0.toList)=true:=bne_iff_ne.mpr eT
     simp only [Option.some.injEq,Prod.mk.injEq] at H
     obtain ⟨rfl,rfl,rfl,rfl,rfl⟩:=H
     go_wp2_with (first|((with_reducible refine zq2 (f:=72) rfl ?_);refine zq4 (some 65) rfl rfl Tryz.func72 zY2 rfl #[.string cn] rfl zY0 ?_;(with_reducible refine (impl_DotGet.calls k1 cn eN true _ ?side1 wU.out).mono ?_);(case side1=>exact zg);rintro e NO ⟨AV,rfl,ar,hb⟩;refine ⟨_,rfl,?_⟩;replace cy:=zA (Kd.z2 (zVR cy.out) hb);have gH:=zA (Kd.z6 (Kd.R_new' ar (Kd.R_lt (zVR cH.out))) (zq7 zB));replace cH:=zA (Kd.R_elder' (zVR cH.out) (Kd.R_base ar) hb);replace ag:=zA (zq1 (zK ag.out) hb);replace ba:=zA (zq1 (zK ba.out) hb);replace HB:=zA (zq0 zB hb);clear hb ar;obtain ⟨hZ,gD,vv⟩:=Kd.z9 gH.out;subst vv;have Fi:=nc.out;have Fj:=nb.out;obtain ⟨_,_,_,_⟩:=zc4 ba.out;obtain ⟨_,_,_,_⟩:=zf4 ba.out;obtain ⟨jU,iE,oS⟩:=Kd.z9 cy.out;subst oS)|(go_at_call 23;(with_reducible refine (impl_MailPut.calls k1 f6 f7 _ _ fG _ _ eN bG _ ?side1 ?side2 ?side3 ?side4 ?side5 AX.out).mono ?_);(case side1=>refine (Kd.z8 (e:=24) (base:=w.heap.size) (ok:=fun k_=>True) (n:=fG.length) (c:=iE) ?_).2.2;exact (by exact zr (Kd.z7 (Kd.z5 (p:=⟨dL,3,none⟩) (Kd.z10 cy.out ba.out zY4) (fun _ hk=>hk.2) (.slice hZ eN.length gD)) (fun _ h_=>h_.1))));(case side2=>exact (Kd.z8 cy.out).2.1);(case side3=>refine (Kd.z8 (e:=9) (base:=w.heap.size) (ok:=fun k_=>(True∧some k_≠(.slice oc cf.length iz:Value).ownBlock)) (n:=eN.length) (c:=gD) ?_).2.2;exact (by exact zr (Kd.z7 (Kd.z5 (p:=⟨dL,3,none⟩) (Kd.z10 gH.out ba.out zY4) (fun _ hk=>hk.2) (.slice hZ eN.length gD)) (fun _ h_=>h_.1))));(case side4=>exact (Kd.z8 gH.out).2.1);(case side5=>exact zg);rintro e NP ⟨rfl,hb⟩;replace cH:=zA (Kd.z2 (by exact zr (Kd.z7 (Kd.z5 (p:=⟨dL,3,none⟩) (Kd.z10 cH.out ba.out zY4) (fun _ hk=>hk.2) (.slice hZ eN.length gD)) (fun _ h_=>h_.1))) hb);replace cy:=zA (Kd.z2 (by exact zr (Kd.z7 (Kd.z5 (p:=⟨dL,3,none⟩) (Kd.z10 cy.out ba.out zY4) (fun _ hk=>hk.2) (.slice hZ eN.length gD)) (fun _ h_=>h_.1))) hb);replace gH:=zA (Kd.z2 (by exact zr (Kd.z7 (Kd.z5 (p:=⟨dL,3,none⟩) (Kd.z10 gH.out ba.out zY4) (fun _ hk=>hk.2) (.slice hZ eN.length gD)) (fun _ h_=>h_.1))) hb);replace ag:=zA (zq1 (g:=aV) (o:=.cells #[.string fk,.string fl,.slice none 0 0,.slice none 0 0] 28 (0,0)) (zG ag.out) hb);replace ba:=zA (zq1 (g:=dL) (o:=.cells #[.string f6,.string f7,.slice jU fG.length iE,.slice hZ eN.length gD] 28 (0,0)) (zG ba.out) hb);replace HB:=zA (zq0 zB hb);clear hb;obtain ⟨_,_,_,_⟩:=zc4 ag.out;obtain ⟨_,_,_,_⟩:=zf4 ag.out))
     refine bodyPost_ret (zq13 rfl _ _ aV 28 #[.string bz0,.string bz0,.slice none 0 0,.slice none 0 0] (0,0) _ rfl (zG ag.out) Tryz.underlying28 rfl zY2) rfl ?_
     exact ⟨_,_,zT,zNil,zNil,zB⟩
    rw [if_pos eT] at H
    have c47b0:(bG.toList==a0.toList)=true:=beq_iff_eq.mpr eT
    have c47b1:(bG.toList != a0.toList)=false:=bne_eq_false_iff_eq.mpr eT
    clear eT
    simp only [Option.some.injEq,Prod.mk.injEq] at H
    obtain ⟨rfl,rfl,rfl,rfl,rfl⟩:=H
    go_wp2_with (first|((with_reducible refine zq2 (f:=72) rfl ?_);refine zq4 (some 65) rfl rfl Tryz.func72 zY2 rfl #[.string cn] rfl zY0 ?_;(with_reducible refine (impl_DotGet.calls k1 cn eN true _ ?side1 wU.out).mono ?_);(case side1=>exact zg);rintro e mE ⟨AV,rfl,ar,hb⟩;refine ⟨_,rfl,?_⟩;replace cy:=zA (Kd.z2 (zVR cy.out) hb);have gH:=zA (Kd.z6 (Kd.R_new' ar (Kd.R_lt (zVR cH.out))) (zq7 zB));replace cH:=zA (Kd.R_elder' (zVR cH.out) (Kd.R_base ar) hb);replace ag:=zA (zq1 (zK ag.out) hb);replace ba:=zA (zq1 (zK ba.out) hb);replace HB:=zA (zq0 zB hb);clear hb ar;obtain ⟨ct,cj,wV⟩:=Kd.z9 gH.out;subst wV;have NQ:=nc.out;have NR:=nb.out;obtain ⟨_,_,_,_⟩:=zc4 ba.out;obtain ⟨_,_,_,_⟩:=zf4 ba.out;obtain ⟨si,pz,HE⟩:=Kd.z9 cy.out;subst HE)|(go_at_call 23;(with_reducible refine (impl_MailPut.calls k1 f6 f7 _ _ fG _ _ eN bG _ ?side1 ?side2 ?side3 ?side4 ?side5 AX.out).mono ?_);(case side1=>refine (Kd.z8 (e:=24) (base:=w.heap.size) (ok:=fun k_=>True) (n:=fG.length) (c:=pz) ?_).2.2;exact (by exact zr (Kd.z7 (Kd.z5 (p:=⟨dL,3,none⟩) (Kd.z10 cy.out ba.out zY4) (fun _ hk=>hk.2) (.slice ct eN.length cj)) (fun _ h_=>h_.1))));(case side2=>exact (Kd.z8 cy.out).2.1);(case side3=>refine (Kd.z8 (e:=9) (base:=w.heap.size) (ok:=fun k_=>(True∧some k_≠(.slice oc cf.length iz:Value).ownBlock)) (n:=eN.length) (c:=cj) ?_).2.2;exact (by exact zr (Kd.z7 (Kd.z5 (p:=⟨dL,3,none⟩) (Kd.z10 gH.out ba.out zY4) (fun _ hk=>hk.2) (.slice ct eN.length cj)) (fun _ h_=>h_.1))));(case side4=>exact (Kd.z8 gH.out).2.1);(case side5=>exact zg);rintro e zD ⟨rfl,hb⟩;replace cH:=zA (Kd.z2 (by exact zr (Kd.z7 (Kd.z5 (p:=⟨dL,3,none⟩) (Kd.z10 cH.out ba.out zY4) (fun _ hk=>hk.2) (.slice ct eN.length cj)) (fun _ h_=>h_.1))) hb);replace cy:=zA (Kd.z2 (by exact zr (Kd.z7 (Kd.z5 (p:=⟨dL,3,none⟩) (Kd.z10 cy.out ba.out zY4) (fun _ hk=>hk.2) (.slice ct eN.length cj)) (fun _ h_=>h_.1))) hb);replace gH:=zA (Kd.z2 (by exact zr (Kd.z7 (Kd.z5 (p:=⟨dL,3,none⟩) (Kd.z10 gH.out ba.out zY4) (fun _ hk=>hk.2) (.slice ct eN.length cj)) (fun _ h_=>h_.1))) hb);replace ag:=zA (zq1 (g:=aV) (o:=.cells #[.string fk,.string fl,.slice none 0 0,.slice none 0 0] 28 (0,0)) (zG ag.out) hb);replace ba:=zA (zq1 (g:=dL) (o:=.cells #[.string f6,.string f7,.slice si fG.length pz,.slice ct eN.length cj] 28 (0,0)) (zG ba.out) hb);replace HB:=zA (zq0 zB hb);clear hb;obtain ⟨_,_,_,_⟩:=zc4 ba.out;obtain ⟨_,_,_,_⟩:=zf4 ba.out;obtain ⟨_,_,_,_⟩:=zc4 ag.out;obtain ⟨_,_,_,_⟩:=zf4 ag.out))
    refine bodyPost_ret (zq13 rfl _ _ aV 28 #[.string f6,.string f7,.slice si fG.length pz,.slice ct eN.length cj] (0,0) _ rfl (zG ag.out) Tryz.underlying28 rfl zY2) rfl ?_
    exact ⟨_,_,zT,by (with_reducible repeat (first|apply Kd.z1|apply Kd.z4|apply Kd.z3));exact Kd.z7 (zR4 aV (Kd.z10 cy.out ag.out zY4) (.string f6) (.string f7) (.slice si fG.length pz) (.slice ct eN.length cj)) (fun _ hk=>trivial),by (with_reducible repeat (first|apply Kd.z1|apply Kd.z4|apply Kd.z3));exact Kd.z7 (zR4 aV (Kd.z10 gH.out ag.out zY4) (.string f6) (.string f7) (.slice si fG.length pz) (.slice ct eN.length cj)) (fun _ hk=>trivial),zB⟩
   rw [if_pos bH] at H
   have c12b0:decide (dM < (cf.length:Int))=true:=decide_eq_true bH
   clear bH
   obtain ⟨bj,H⟩:=zp H
   have c13b0:decide (0≤dM)=true:=decide_eq_true bj
   clear bj
   obtain ⟨bB,H⟩:=zp H
   have c14b0:decide (dM < (cf.length:Int))=true:=decide_eq_true bB
   clear bB
   replace H:=Option.bind_eq_some_iff.mp H
   obtain ⟨⟨dR,cu,b8⟩,kM,H⟩:=H
   try dsimp only at H
   have lU:=zA kM
   clear kM
   replace H:=Option.bind_eq_some_iff.mp H
   obtain ⟨⟨bZ,cB,cg⟩,kx,H⟩:=H
   try dsimp only at H
   have lh:=zA kx
   clear kx
   by_cases e7:cg=true
   rotate_left
   ·replace e7:=Bool.eq_false_iff.mpr e7
    subst e7
    rw [if_neg zfn] at H
    simp only [Option.some.injEq,Prod.mk.injEq] at H
    obtain ⟨rfl,rfl,rfl,rfl,rfl⟩:=H
    have iK:0≤(dM:Int):=of_decide_eq_true zY1
    have iL:dM < (cf.length:Int):=of_decide_eq_true zY1
    obtain ⟨pA,pB,AY⟩:=Kd.z11 (Kd.z8 cH.out).2.2 dM iK iL
    cases pB
    replace iK:=eq_true iK
    replace iL:=eq_true iL
    go_wp2_with (first|((with_reducible refine zq2 (f:=33) rfl ?_);refine zq4 (some 38) rfl rfl Tryz.func33 zY2 rfl #[.string (rdOf ByteArray.empty cf dM),.string bz1] rfl zY0 ?_;(with_reducible refine (strings_Cut.calls (rdOf ByteArray.empty cf dM) bz1 dR cu b8 _ ?side1 lU.out).mono ?_);(case side1=>exact zg);rintro e w' ⟨rfl,⟨nd,rfl⟩⟩;refine ⟨_,rfl,?_⟩;(try (rw [drewN_self wr];generalize hq_:World.drewN wr _=wr;have aQ:Aside0 (Kd.R k24 24 wr w.heap.size (fun _=>True) u162002 fG):=⟨by rw [← hq_];exact (zVR cy.out)⟩;have aR:Aside0 (Kd.R Kd.string 9 wr w.heap.size (fun _=>True) (.slice (some pA) cf.length iz) cf):=⟨by rw [← hq_];exact (zVR cH.out)⟩;have dV:Aside0 (wr.heap[aV]?=some (.cells #[.string fk,.string fl,.slice none 0 0,.slice none 0 0] 28 (0,0))):=⟨by rw [← hq_];exact (zK ag.out)⟩;have gB:Aside0 (wr.heap[dL]?=some (.cells #[.string f6,.string f7,u162002,.slice none 0 0] 28 (0,0))):=⟨by rw [← hq_];exact (zK ba.out)⟩;have gC:Aside0 (Below w.heap.size w wr):=⟨by rw [← hq_];exact zB⟩;clear cy cH ag ba HB hq_;have cy:=aQ;have cH:=aR;have ag:=dV;have ba:=gB;have HB:=gC;clear aQ aR dV gB gC)))|((with_reducible refine zq2 (f:=37) rfl ?_);refine zq4 (some 44) rfl rfl Tryz.func37 zY2 rfl #[.string cu] rfl zY0 ?_;(with_reducible refine (impl_AddrGet.calls k1 cu bZ cB false _ ?side1 lh.out).mono ?_);(case side1=>exact zg);rintro e sS ⟨rfl,hb⟩;refine ⟨_,rfl,?_⟩;replace cH:=zA (Kd.z2 (zVR cH.out) hb);replace cy:=zA (Kd.z2 (zVR cy.out) hb);replace ag:=zA (zq1 (zK ag.out) hb);replace ba:=zA (zq1 (zK ba.out) hb);replace HB:=zA (zq0 zB hb);clear hb)|((with_reducible refine zq5 (N:=13) rfl ?_);refine zE (N:=13) (cs:=#[.string bz0,.string bz0]) (t:=24) ?_;intro dd hg mK hbox hb;replace cH:=zA (Kd.z2 (zVR cH.out) hb);replace cy:=zA (Kd.z2 (Kd.R_elderB (zVR cy.out) dd (Nat.le_of_eq hg.symm)) hb);have gI:=zA hbox;have AZ:=zA (zS hg:w.heap.size≤dd);have A9:=zA (zS hg:w.heap.size≤dd);replace HB:=zA (zq0 zB hb);have pC:=zA (zNlt hg (zK ag.out):aV≠dd);have pD:=zA (zNgt hg (zK ag.out):dd≠aV);replace ag:=zA (zq1 (zK ag.out) hb);have pE:=zA (zNlt hg (zK ba.out):dL≠dd);have pF:=zA (zNgt hg (zK ba.out):dd≠dL);replace ba:=zA (zq1 (zK ba.out) hb);clear hb hbox hg;have zm:=pD.out;have zo:=pC.out;have NS:=pF.out;have NT:=pE.out;obtain ⟨_,_⟩:=zc2 gI.out;obtain ⟨_,_⟩:=zf2 gI.out;have yE:=nb.out;have yF:=nc.out;obtain ⟨_,_,_,_⟩:=zc4 ag.out;obtain ⟨_,_,_,_⟩:=zf4 ag.out))
    refine bodyPost_ret (zq13 rfl _ _ aV 28 #[.string bz0,.string bz0,.slice none 0 0,.slice none 0 0] (0,0) _ rfl (zG ag.out) Tryz.underlying28 rfl zY2) rfl ?_
    exact ⟨_,_,zT,zNil,zNil,zB⟩
   subst e7
   rw [if_pos rfl] at H
   by_cases bK:dM=0
   ·rw [if_pos bK] at H
    have c18b0:(dM==0)=true:=beq_iff_eq.mpr bK
    have c18b1:(dM != 0)=false:=bne_eq_false_iff_eq.mpr bK
    clear bK
    have H':=zA H
    clear H
    have iK:0≤(dM:Int):=of_decide_eq_true zY1
    have iL:dM < (cf.length:Int):=of_decide_eq_true zY1
    obtain ⟨pA,pB,AY⟩:=Kd.z11 (Kd.z8 cH.out).2.2 dM iK iL
    cases pB
    replace iK:=eq_true iK
    replace iL:=eq_true iL
    go_wp2_with (first|((with_reducible refine zq2 (f:=33) rfl ?_);refine zq4 (some 38) rfl rfl Tryz.func33 zY2 rfl #[.string (rdOf ByteArray.empty cf dM),.string bz1] rfl zY0 ?_;(with_reducible refine (strings_Cut.calls (rdOf ByteArray.empty cf dM) bz1 dR cu b8 _ ?side1 lU.out).mono ?_);(case side1=>exact zg);rintro e w' ⟨rfl,⟨nd,rfl⟩⟩;refine ⟨_,rfl,?_⟩;(try (rw [drewN_self wr];generalize hq_:World.drewN wr _=wr;have aQ:Aside0 (Kd.R k24 24 wr w.heap.size (fun _=>True) u162002 fG):=⟨by rw [← hq_];exact (zVR cy.out)⟩;have aR:Aside0 (Kd.R Kd.string 9 wr w.heap.size (fun _=>True) (.slice (some pA) cf.length iz) cf):=⟨by rw [← hq_];exact (zVR cH.out)⟩;have dV:Aside0 (wr.heap[aV]?=some (.cells #[.string fk,.string fl,.slice none 0 0,.slice none 0 0] 28 (0,0))):=⟨by rw [← hq_];exact (zK ag.out)⟩;have gB:Aside0 (wr.heap[dL]?=some (.cells #[.string f6,.string f7,u162002,.slice none 0 0] 28 (0,0))):=⟨by rw [← hq_];exact (zK ba.out)⟩;have gC:Aside0 (Below w.heap.size w wr):=⟨by rw [← hq_];exact zB⟩;clear cy cH ag ba HB hq_;have cy:=aQ;have cH:=aR;have ag:=dV;have ba:=gB;have HB:=gC;clear aQ aR dV gB gC)))|((with_reducible refine zq2 (f:=37) rfl ?_);refine zq4 (some 44) rfl rfl Tryz.func37 zY2 rfl #[.string cu] rfl zY0 ?_;(with_reducible refine (impl_AddrGet.calls k1 cu bZ cB true _ ?side1 lh.out).mono ?_);(case side1=>exact zg);rintro e eS ⟨rfl,hb⟩;refine ⟨_,rfl,?_⟩;replace cH:=zA (Kd.z2 (zVR cH.out) hb);replace cy:=zA (Kd.z2 (zVR cy.out) hb);replace ag:=zA (zq1 (zK ag.out) hb);replace ba:=zA (zq1 (zK ba.out) hb);replace HB:=zA (zq0 zB hb);clear hb)|((with_reducible refine zq5 (N:=13) rfl ?_);refine zE (N:=13) (cs:=#[.string bz0,.string bz0]) (t:=24) ?_;intro dd hg mD hbox hb;replace cH:=zA (Kd.z2 (zVR cH.out) hb);replace cy:=zA (Kd.z2 (Kd.R_elderB (zVR cy.out) dd (Nat.le_of_eq hg.symm)) hb);have gI:=zA hbox;have AZ:=zA (zS hg:w.heap.size≤dd);have A9:=zA (zS hg:w.heap.size≤dd);replace HB:=zA (zq0 zB hb);have pC:=zA (zNlt hg (zK ag.out):aV≠dd);have pD:=zA (zNgt hg (zK ag.out):dd≠aV);replace ag:=zA (zq1 (zK ag.out) hb);have pE:=zA (zNlt hg (zK ba.out):dL≠dd);have pF:=zA (zNgt hg (zK ba.out):dd≠dL);replace ba:=zA (zq1 (zK ba.out) hb);clear hb hbox hg;have sW:=pD.out;have sX:=pC.out;have Dd:=pF.out;have De:=pE.out;obtain ⟨_,_⟩:=zc2 gI.out;obtain ⟨_,_⟩:=zf2 gI.out;have FN:=nc.out;have FO:=nb.out;obtain ⟨_,_,_,_⟩:=zc4 ba.out;obtain ⟨_,_,_,_⟩:=zf4 ba.out))
    go_roundg k1
    case measure=>have:=HK1.out;omega
    case rel=>exact ⟨(wrap64 (dM+1)),(fk),(fl),(bZ),(cB),(fG),(u162002),zY3,H',⟨by have:=HK1.out;omega⟩,⟨by (with_reducible repeat (first|apply Kd.z1|apply Kd.z4|apply Kd.z3));exact Kd.z7 (zR2 dL (Kd.z5 (p:=⟨dd,1,none⟩) (Kd.z5 (p:=⟨dd,0,none⟩) (Kd.z10 (Kd.z10 cH.out gI.out zY4) ba.out zY4) (fun _ hk=>hk.1.2) (.string bZ)) (fun _ hk=>hk.1.2) (.string cB)) (.string bZ) (.string cB)) (fun _ hk=>trivial)⟩,⟨by (with_reducible repeat (first|apply Kd.z1|apply Kd.z4|apply Kd.z3));exact Kd.z7 (zR2 dL (Kd.z5 (p:=⟨dd,1,none⟩) (Kd.z5 (p:=⟨dd,0,none⟩) (Kd.z10 (Kd.z7 cy.out (fun k_ hk=>(⟨hk,hk.2⟩:_∧k_≠dd))) ba.out zY4) (fun _ hk=>hk.1.2) (.string bZ)) (fun _ hk=>hk.1.2) (.string cB)) (.string bZ) (.string cB)) (fun _ hk=>trivial)⟩,⟨zG ag.out⟩,⟨zG ba.out⟩,⟨zB⟩⟩
   rw [if_neg bK] at H
   have c18b0:(dM==0)=false:=beq_eq_false_iff_ne.mpr bK
   have c18b1:(dM != 0)=true:=bne_iff_ne.mpr bK
   obtain ⟨fE,H⟩:=zp H
   have LMc26:=zA fE
   clear fE
   obtain ⟨pG,wW⟩:∃ y_:List (S24),y_=(fG++[(⟨bZ,cB⟩:S24)]):=⟨_,rfl⟩
   replace H:(impl_MailGet.l0 k1 a0 cn cf (cf.length:Int) (wrap64 (dM+1)) f6 f7 pG)=some (r1,r2,r3,r4,r5):=zX wW H
   have HF:=zA wW
   clear wW
   have H':=zA H
   clear H
   have iK:0≤(dM:Int):=of_decide_eq_true zY1
   have iL:dM < (cf.length:Int):=of_decide_eq_true zY1
   obtain ⟨pA,pB,AY⟩:=Kd.z11 (Kd.z8 cH.out).2.2 dM iK iL
   cases pB
   replace iK:=eq_true iK
   replace iL:=eq_true iL
   go_wp2_with (first|((with_reducible refine zq2 (f:=33) rfl ?_);refine zq4 (some 38) rfl rfl Tryz.func33 zY2 rfl #[.string (rdOf ByteArray.empty cf dM),.string bz1] rfl zY0 ?_;(with_reducible refine (strings_Cut.calls (rdOf ByteArray.empty cf dM) bz1 dR cu b8 _ ?side1 lU.out).mono ?_);(case side1=>exact zg);rintro e w' ⟨rfl,⟨nd,rfl⟩⟩;refine ⟨_,rfl,?_⟩;(try (rw [drewN_self wr];generalize hq_:World.drewN wr _=wr;have aQ:Aside0 (Kd.R k24 24 wr w.heap.size (fun _=>True) u162002 fG):=⟨by rw [← hq_];exact (zVR cy.out)⟩;have aR:Aside0 (Kd.R Kd.string 9 wr w.heap.size (fun _=>True) (.slice (some pA) cf.length iz) cf):=⟨by rw [← hq_];exact (zVR cH.out)⟩;have dV:Aside0 (wr.heap[aV]?=some (.cells #[.string fk,.string fl,.slice none 0 0,.slice none 0 0] 28 (0,0))):=⟨by rw [← hq_];exact (zK ag.out)⟩;have gB:Aside0 (wr.heap[dL]?=some (.cells #[.string f6,.string f7,u162002,.slice none 0 0] 28 (0,0))):=⟨by rw [← hq_];exact (zK ba.out)⟩;have gC:Aside0 (Below w.heap.size w wr):=⟨by rw [← hq_];exact zB⟩;clear cy cH ag ba HB hq_;have cy:=aQ;have cH:=aR;have ag:=dV;have ba:=gB;have HB:=gC;clear aQ aR dV gB gC)))|((with_reducible refine zq2 (f:=37) rfl ?_);refine zq4 (some 44) rfl rfl Tryz.func37 zY2 rfl #[.string cu] rfl zY0 ?_;(with_reducible refine (impl_AddrGet.calls k1 cu bZ cB true _ ?side1 lh.out).mono ?_);(case side1=>exact zg);rintro e eG ⟨rfl,hb⟩;refine ⟨_,rfl,?_⟩;replace cH:=zA (Kd.z2 (zVR cH.out) hb);replace cy:=zA (Kd.z2 (zVR cy.out) hb);replace ag:=zA (zq1 (zK ag.out) hb);replace ba:=zA (zq1 (zK ba.out) hb);replace HB:=zA (zq0 zB hb);clear hb)|((with_reducible refine zq5 (N:=13) rfl ?_);refine zE (N:=13) (cs:=#[.string bz0,.string bz0]) (t:=24) ?_;intro dd hg gb hbox hb;replace cH:=zA (Kd.z2 (zVR cH.out) hb);replace cy:=zA (Kd.z2 (Kd.R_elderB (zVR cy.out) dd (Nat.le_of_eq hg.symm)) hb);have gI:=zA hbox;have AZ:=zA (zS hg:w.heap.size≤dd);have A9:=zA (zS hg:w.heap.size≤dd);replace HB:=zA (zq0 zB hb);have pC:=zA (zNlt hg (zK ag.out):aV≠dd);have pD:=zA (zNgt hg (zK ag.out):dd≠aV);replace ag:=zA (zq1 (zK ag.out) hb);have pE:=zA (zNlt hg (zK ba.out):dL≠dd);have pF:=zA (zNgt hg (zK ba.out):dd≠dL);replace ba:=zA (zq1 (zK ba.out) hb);clear hb hbox hg;have uR:=pD.out;have uS:=pC.out;have sU:=pF.out;have sV:=pE.out;obtain ⟨_,_⟩:=zc2 gI.out;obtain ⟨_,_⟩:=zf2 gI.out;have EU:=nc.out;have EV:=nb.out;obtain ⟨_,_,_,_⟩:=zc4 ba.out;obtain ⟨_,_,_,_⟩:=zf4 ba.out)|((with_reducible refine gate_builtin (b:=.append) (xs:=#[.tmp 48,.tmp 50]) rfl ?_);at_builtin;refine Kd.R_append k24 (w0:=w) w.heap.size rfl (.tmp 48) (.tmp 50) 25 24 (.agg #[(.string ⟨#[]⟩),(.string ⟨#[]⟩)]) 32 rfl Tryz.underlying25 info24 rfl zY4 zY6 u162002 fG (⟨bZ,cB⟩:S24) [.string bZ,.string cB] (fun k_=>k_≠dd) (fun _=>False) rfl (by first|(go_simp;done)|(go_simp;rfl)) ?aP (fun _ hk=>hk.elim) ?aF ?aO ?aB ?aS ?aL ?_;(case aP=>exact k24_mkM _ _ _ (⟨bZ,cB⟩:S24));(case aB=>exact zB);(case aF=>exact (fun k_ hk=>Kd.freshB (g:=dd) (o:=.cells #[.string bZ,.string cB] 24 (0,0)) (zG gI.out) k_ hk));(case aO=>exact (by (with_reducible repeat (first|apply Kd.z1|apply Kd.z4|apply Kd.z3));exact Kd.z7 (zR2 dd (Kd.z7 cy.out (fun k_ hk=>(⟨hk,hk.2⟩:_∧k_≠dd))) (.string bZ) (.string cB)) (fun _ hk=>hk.1.2)));(case aS=>exact (zq7 zB));(case aL=>have:=LMc26.out;omega);intro NU n2 ho hb hg hat;rw [← HF.out] at ho;have aQ:=zA (Kd.R_over' (by exact zr (Kd.z7 (zR2 dd (Kd.z10 cH.out gI.out zY4) (.string bZ) (.string cB)) (fun _ h_=>h_.1))) (Kd.R_typed (by exact zr (Kd.z7 (zR2 dd (Kd.z7 cy.out (fun k_ hk=>(⟨hk,hk.2⟩:_∧k_≠dd))) (.string bZ) (.string cB)) (fun _ h_=>h_.1)))) zY4 hg);have aR:=zA (blk_grown (g:=aV) (o:=.cells #[.string fk,.string fl,.slice none 0 0,.slice none 0 0] 28 (0,0)) (zG ag.out) hg (Kd.R_ne cy.out ag.out zY4));have dV:=zA (blk_grown (g:=dL) (o:=.cells #[.string f6,.string f7,u162002,.slice none 0 0] 28 (0,0)) (zG ba.out) hg (Kd.R_ne cy.out ba.out zY4));have gB:=zA (blk_grown (g:=dd) (o:=.cells #[.string bZ,.string cB] 24 (0,0)) (zG gI.out) hg (Kd.R_away cy.out (fun _ hk=>hk.2)));have gC:=zA (hb);have oC:=zA (ho);clear cH;clear ag;clear ba;clear gI;clear HB;clear cy;have cH:=aQ;have ag:=aR;have ba:=dV;have gI:=gB;have HB:=gC;have Ba:=oC;clear aQ aR dV gB gC oC;clear ho hb hg hat;obtain ⟨wX,wY,HH⟩:=Kd.z9 Ba.out;subst HH;obtain ⟨_,_,_,_⟩:=zc4 ba.out;obtain ⟨_,_,_,_⟩:=zf4 ba.out))
   go_roundg k1
   case measure=>have:=HK1.out;omega
   case rel=>exact ⟨(wrap64 (dM+1)),(fk),(fl),(f6),(f7),(pG),(.slice wX pG.length wY),zY3,H',⟨by have:=HK1.out;omega⟩,⟨by (with_reducible repeat (first|apply Kd.z1|apply Kd.z4|apply Kd.z3));exact Kd.z7 (Kd.z5 (p:=⟨dL,2,none⟩) (Kd.z10 cH.out ba.out zY4) (fun _ hk=>hk.2) (.slice wX pG.length wY)) (fun _ hk=>trivial)⟩,⟨by (with_reducible repeat (first|apply Kd.z1|apply Kd.z4|apply Kd.z3));exact Kd.z7 (Kd.z5 (p:=⟨dL,2,none⟩) (Kd.z10 Ba.out ba.out zY4) (fun _ hk=>hk.2) (.slice wX pG.length wY)) (fun _ hk=>trivial)⟩,⟨zG ag.out⟩,⟨zG ba.out⟩,⟨zB⟩⟩
end Go.Proofs.YtjdpdkdhfnpcgaaGreatDoor.Q
