/- Of a text of ours what this claim needs. -/
import Derived.Test.YtjdpdkdhfnpcgaaGreatDoorZzFnExactNoteGetSQ0
import Derived.Test.YtjdpdkdhfnpcgaaGreatDoorZzFnExactNoteGetSAu
import Derived.Test.YtjdpdkdhfnpcgaaGreatDoorZzFnExactNoteGetSQ11
import Derived.Test.YtjdpdkdhfnpcgaaGreatDoorZzFnExactNoteGetSQ13
import Derived.Test.YtjdpdkdhfnpcgaaGreatDoorZzFnExactNoteGetSHSplit
namespace Go.Proofs.YtjdpdkdhfnpcgaaGreatDoor.Q
open Go.RowKit Go.Proofs.YtjdpdkdhfnpcgaaGreatDoorW.PrintWords Go.Proofs.YtjdpdkdhfnpcgaaGreatDoorW.PrintLast Go.Proofs.YtjdpdkdhfnpcgaaGreatDoorW.PrintMore
attribute [local go_sem] max2_int min2_int max_two min_two max_three min_three max_four min_four
set_option linter.unusedVariables false
set_option linter.unusedSimpArgs false
def impl_NoteOk.j0:Nat→Bool→Int→Int→ByteArray→ByteArray→Int→ByteArray→ByteArray→List (S24)→List ByteArray→Option (Bool)
 | 0,_,_,_,_,_,_,_,_,_,_=>none
 | k+1,x3,nZ,uu,mM,qq,wK,GW,GX,GY,GZ=>if nZ=1 then ((impl_MailOk.f k GW GX GY GZ).bind fun dN=>(if dN=true then ((impl_isTime.f wK).bind fun dZ=>(if dZ=true then (if uu=0 then ((impl_Addr_null.f mM qq).bind fun cX=>(some cX)) else (some false)) else (some false))) else (some false))) else (if nZ=2 then (if x3=true then (some (wK==0)) else (some false)) else (if nZ=3 then (if x3=true then ((impl_isTime.f wK).bind fun dU=>(some dU)) else (some false)) else (some false)))
def impl_NoteOk.f (k:Nat) (aa:Int) (ab:Int) (aC:ByteArray) (aD:ByteArray) (aE:Int) (av:ByteArray) (aw:ByteArray) (al:List (S24)) (an:List ByteArray):Option (Bool):=(impl_within.f ab 1 999).bind fun bR=>(if bR=true then ((impl_AddrOk.f k aC aD).bind fun gh=>(if gh=true then ((impl_Mail_empty.f av aw al an).bind fun bO=>(impl_NoteOk.j0 k bO aa ab aC aD aE av aw al an)) else (impl_NoteOk.j0 k false aa ab aC aD aE av aw al an))) else (impl_NoteOk.j0 k false aa ab aC aD aE av aw al an))
set_option maxHeartbeats 8000000 in
set_option maxRecDepth 100000 in
theorem impl_NoteOk.calls (k:Nat) (aa:Int) (ab:Int) (aC:ByteArray) (aD:ByteArray) (aE:Int) (av:ByteArray) (aw:ByteArray) (bS:Option Addr) (bT:Nat) (al:List (S24)) (bU:Option Addr) (bV:Nat) (an:List ByteArray) (r:Bool) (w:World) (fK:Kd.C k24 w bS al.length al) (fL:al.length≤bT) (fM:Kd.C Kd.string w bU an.length an) (fN:an.length≤bV) (hG:GOK w) (h:impl_NoteOk.f k aa ab aC aD aE av aw al an=some r) :
 Calls Tryz.prog 10 #[.agg #[.int .i64 aa,.int .i64 ab,.string aC,.string aD,.int .i64 aE,.string av,.string aw,.slice bS al.length bT,.slice bU an.length bV]] w fun e w'=>e=.returned (.bool r)∧Below w.heap.size w w':=by
 have hu30:=Tryz.underlying30
 have hu24:=Tryz.underlying24
 have hu28:=Tryz.underlying28
 have eC:=zA fK
 have eD:=zA fL
 clear fK fL
 have eE:=zA fM
 have eF:=zA fN
 clear fM fN
 have HG:=zA hG
 clear hG
 have HB:=zA (Below.refl w.heap.size w)
 have H:((impl_within.f ab 1 999).bind fun bR=>(if bR=true then ((impl_AddrOk.f k aC aD).bind fun gh=>(if gh=true then ((impl_Mail_empty.f av aw al an).bind fun bO=>(impl_NoteOk.j0 k bO aa ab aC aD aE av aw al an)) else (impl_NoteOk.j0 k false aa ab aC aD aE av aw al an))) else (impl_NoteOk.j0 k false aa ab aC aD aE av aw al an)))=some r:=h
 clear h
 have lC:=zA H
 clear H
 go_enter Tryz.func10,Tryz.ntmps10
 go_upto_region 1 with (first|((with_reducible refine zq5 (N:=1) rfl ?_);refine zE (N:=1) (cs:=#[.int .i64 aa,.int .i64 ab,.string aC,.string aD,.int .i64 aE,.string av,.string aw,.slice bS al.length bT,.slice bU an.length bV]) (t:=30) ?_;intro dH hg w3 hbox hb;have aN:=zA hbox;have lc:=zA (zS hg:w.heap.size≤dH);have ld:=zA (zS hg:w.heap.size≤dH);replace HB:=zA (zq0 zB hb);clear hb hbox hg))
 (try simp only [Act.put,zL0,zL1,zL2])
 go_cut [3] (fun v3 wc=>∃ (kq:Nat) (ac:Bool),v3=.bool ac∧Aside0 (impl_NoteOk.j0 kq ac aa ab aC aD aE av aw al an=some r)∧Aside0 (kq≤k)∧Aside0 (wc.heap[dH]?=some (.cells #[.int .i64 aa,.int .i64 ab,.string aC,.string aD,.int .i64 aE,.string av,.string aw,(.slice bS al.length bT),(.slice bU an.length bV)] 30 (0,0)))∧Aside0 (Below w.heap.size w wc))
 case first =>
  have H:=lC.out
  clear lC
  replace H:=Option.bind_eq_some_iff.mp H
  obtain ⟨bR,ci,H⟩:=H
  try dsimp only at H
  have A4:=zA ci
  clear ci
  by_cases c5:bR=true
  rotate_left
  ·replace c5:=Bool.eq_false_iff.mpr c5
   subst c5
   rw [if_neg zfn] at H
   have H':=zA H
   clear H
   obtain ⟨qF,qG,qH,qI,G0,G1,G2,G3,G4⟩:=zc9 aN.out
   obtain ⟨qJ,qK,qL,qM,G5,G6,G7,G8,G9⟩:=zf9 aN.out
   go_wp2_with (first|((with_reducible refine zq2 (f:=27) rfl ?_);refine zq4 (some 6) rfl rfl Tryz.func27 zY2 rfl #[.int .i64 ab,.int .i64 1,.int .i64 999] rfl zY0 ?_;(with_reducible refine (impl_within.calls ab 1 999 false _ A4.out).mono ?_);rintro e w' ⟨rfl,⟨nd,rfl⟩⟩;refine ⟨_,rfl,?_⟩))
   go_meet
   case rel=>exact ⟨_,(false),zY3,H',⟨by first|omega|exact Nat.le_refl _⟩,⟨zK aN.out⟩,⟨zB⟩⟩
  subst c5
  rw [if_pos rfl] at H
  replace H:=Option.bind_eq_some_iff.mp H
  obtain ⟨gh,es,H⟩:=H
  try dsimp only at H
  have A6:=zA es
  clear es
  by_cases c7:gh=true
  rotate_left
  ·replace c7:=Bool.eq_false_iff.mpr c7
   subst c7
   rw [if_neg zfn] at H
   have H':=zA H
   clear H
   obtain ⟨tz,tA,tB,tC,tD,tE,tF,tG,tH⟩:=zc9 aN.out
   obtain ⟨tI,tJ,tK,tL,tM,tN,tO,tP,tQ⟩:=zf9 aN.out
   go_wp2_with (first|((with_reducible refine zq2 (f:=27) rfl ?_);refine zq4 (some 6) rfl rfl Tryz.func27 zY2 rfl #[.int .i64 ab,.int .i64 1,.int .i64 999] rfl zY0 ?_;(with_reducible refine (impl_within.calls ab 1 999 true _ A4.out).mono ?_);rintro e w' ⟨rfl,⟨nd,rfl⟩⟩;refine ⟨_,rfl,?_⟩)|(go_at_call 28;(with_reducible refine (impl_AddrOk.calls k aC aD false _ ?side1 A6.out).mono ?_);(case side1=>exact zg);rintro e jy ⟨rfl,hb⟩;replace aN:=zA (zq1 (zK aN.out) hb);replace HB:=zA (zq0 zB hb);clear hb))
   go_meet
   case rel=>exact ⟨_,(false),zY3,H',⟨by first|omega|exact Nat.le_refl _⟩,⟨zK aN.out⟩,⟨zB⟩⟩
  subst c7
  rw [if_pos rfl] at H
  replace H:=Option.bind_eq_some_iff.mp H
  obtain ⟨bO,e6,H⟩:=H
  try dsimp only at H
  have A8:=zA e6
  clear e6
  have H':=zA H
  clear H
  obtain ⟨tR,tS,tT,tU,tV,tW,tX,tY,tZ⟩:=zc9 aN.out
  obtain ⟨t6,t7,t8,ua,ub,uc,ud,ue,uf⟩:=zf9 aN.out
  go_wp2_with (first|((with_reducible refine zq2 (f:=27) rfl ?_);refine zq4 (some 6) rfl rfl Tryz.func27 zY2 rfl #[.int .i64 ab,.int .i64 1,.int .i64 999] rfl zY0 ?_;(with_reducible refine (impl_within.calls ab 1 999 true _ A4.out).mono ?_);rintro e w' ⟨rfl,⟨nd,rfl⟩⟩;refine ⟨_,rfl,?_⟩)|(go_at_call 28;(with_reducible refine (impl_AddrOk.calls k aC aD true _ ?side1 A6.out).mono ?_);(case side1=>exact zg);rintro e cv ⟨rfl,hb⟩;replace aN:=zA (zq1 (zK aN.out) hb);replace HB:=zA (zq0 zB hb);clear hb;obtain ⟨Ha,Hb,Hc,Hd,He,Hf,Hg,Hh,Hi⟩:=zc9 aN.out;obtain ⟨Hj,Hk,Hl,Hm,Hn,Ho,Hp,Hq,Hr⟩:=zf9 aN.out)|(go_at_call 29;(with_reducible refine (impl_Mail_empty.calls av aw _ _ al _ _ an bO _ ?side1 ?side2 ?side3 ?side4 A8.out).mono ?_);(case side1=>exact zC (Kd.z0 eC.out HB.out));(case side2=>exact eD.out);(case side3=>exact zC (Kd.z0 eE.out HB.out));(case side4=>exact eF.out);rintro e gx ⟨rfl,hb⟩;replace aN:=zA (zq1 (zK aN.out) hb);replace HB:=zA (zq0 zB hb);clear hb))
  go_meet
  case rel=>exact ⟨_,(bO),zY3,H',⟨by first|omega|exact Nat.le_refl _⟩,⟨zK aN.out⟩,⟨zB⟩⟩
 case rest =>
  clear lC
  try clear c1
  try clear c2
  try clear p2
  try clear c5
  try clear c7
  try clear ce
  try clear Ha Hb Hc Hd He Hf Hg Hh Hi
  try clear tz tA tB tC tD tE tF tG tH
  try clear qF qG qH qI G0 G1 G2 G3 G4
  try clear tR tS tT tU tV tW tX tY tZ
  try clear Hj Hk Hl Hm Hn Ho Hp Hq Hr
  try clear tI tJ tK tL tM tN tO tP tQ
  try clear qJ qK qL qM G5 G6 G7 G8 G9
  try clear t6 t7 t8 ua ub uc ud ue uf
  obtain ⟨kq,ac,rfl,HA,HJ1,aN,HB⟩:=hcut
  cases kq with
  | zero=>exact absurd HA.out (by simp [impl_NoteOk.j0])
  | succ kj1 =>
   have H:=HA.out
   clear HA
   simp only [impl_NoteOk.j0] at H
   by_cases ck:aa=1
   rotate_left
   ·rw [if_neg ck] at H
    have c16b0:(aa==1)=false:=beq_eq_false_iff_ne.mpr ck
    have c16b1:(aa != 1)=true:=bne_iff_ne.mpr ck
    by_cases fD:aa=2
    ·rw [if_pos fD] at H
     have c35b0:(aa==2)=true:=beq_iff_eq.mpr fD
     have c35b1:(aa != 2)=false:=bne_eq_false_iff_eq.mpr fD
     clear fD
     by_cases gj:ac=true
     ·subst gj
      rw [if_pos rfl] at H
      obtain rfl:=Option.some.inj H
      obtain ⟨_,_,_,_,_,_,_,_,_⟩:=zc9 aN.out
      obtain ⟨_,_,_,_,_,_,_,_,_⟩:=zf9 aN.out
      go_wp2
      go_ret
      exact ⟨zT,zB⟩
     replace gj:=Bool.eq_false_iff.mpr gj
     subst gj
     rw [if_neg zfn] at H
     obtain rfl:=Option.some.inj H
     obtain ⟨_,_,_,_,_,_,_,_,_⟩:=zc9 aN.out
     obtain ⟨_,_,_,_,_,_,_,_,_⟩:=zf9 aN.out
     go_wp2
     go_ret
     exact ⟨zT,zB⟩
    rw [if_neg fD] at H
    have c35b0:(aa==2)=false:=beq_eq_false_iff_ne.mpr fD
    have c35b1:(aa != 2)=true:=bne_iff_ne.mpr fD
    by_cases f5:aa=3
    rotate_left
    ·rw [if_neg f5] at H
     have c39b0:(aa==3)=false:=beq_eq_false_iff_ne.mpr f5
     have c39b1:(aa != 3)=true:=bne_iff_ne.mpr f5
     obtain rfl:=Option.some.inj H
     obtain ⟨_,_,_,_,_,_,_,_,_⟩:=zc9 aN.out
     obtain ⟨_,_,_,_,_,_,_,_,_⟩:=zf9 aN.out
     go_wp2
     go_ret
     exact ⟨zT,zB⟩
    rw [if_pos f5] at H
    have c39b0:(aa==3)=true:=beq_iff_eq.mpr f5
    have c39b1:(aa != 3)=false:=bne_eq_false_iff_eq.mpr f5
    clear f5
    by_cases sa:ac=true
    rotate_left
    ·replace sa:=Bool.eq_false_iff.mpr sa
     subst sa
     rw [if_neg zfn] at H
     obtain rfl:=Option.some.inj H
     obtain ⟨_,_,_,_,_,_,_,_,_⟩:=zc9 aN.out
     obtain ⟨_,_,_,_,_,_,_,_,_⟩:=zf9 aN.out
     go_wp2
     go_ret
     exact ⟨zT,zB⟩
    subst sa
    rw [if_pos rfl] at H
    replace H:=Option.bind_eq_some_iff.mp H
    obtain ⟨dU,AL,H⟩:=H
    try dsimp only at H
    have Hs:=zA AL
    clear AL
    obtain rfl:=Option.some.inj H
    obtain ⟨_,_,_,_,_,_,_,_,_⟩:=zc9 aN.out
    obtain ⟨_,_,_,_,_,_,_,_,_⟩:=zf9 aN.out
    go_wp2_with (first|(go_at_call 31;(with_reducible refine (impl_isTime.calls aE dU _ Hs.out).mono ?_);rintro e w' ⟨rfl,⟨nd,rfl⟩⟩))
    go_ret
    exact ⟨zT,zB⟩
   rw [if_pos ck] at H
   have c16b0:(aa==1)=true:=beq_iff_eq.mpr ck
   have c16b1:(aa != 1)=false:=bne_eq_false_iff_eq.mpr ck
   clear ck
   replace H:=Option.bind_eq_some_iff.mp H
   obtain ⟨dN,e8,H⟩:=H
   try dsimp only at H
   have et:=zA e8
   clear e8
   by_cases bK:dN=true
   rotate_left
   ·replace bK:=Bool.eq_false_iff.mpr bK
    subst bK
    rw [if_neg zfn] at H
    obtain rfl:=Option.some.inj H
    obtain ⟨_,_,_,_,_,_,_,_,_⟩:=zc9 aN.out
    obtain ⟨_,_,_,_,_,_,_,_,_⟩:=zf9 aN.out
    go_wp2_with (first|((with_reducible refine zq2 (f:=30) rfl ?_);refine zq4 (some 23) rfl rfl Tryz.func30 zY2 rfl #[.agg #[.string av,.string aw,.slice bS al.length bT,.slice bU an.length bV]] rfl zY0 ?_;(with_reducible refine (impl_MailOk.calls kj1 av aw _ _ al _ _ an false _ ?side1 ?side2 ?side3 ?side4 ?side5 et.out).mono ?_);(case side1=>exact zC (Kd.z0 eC.out HB.out));(case side2=>exact eD.out);(case side3=>exact zC (Kd.z0 eE.out HB.out));(case side4=>exact eF.out);(case side5=>exact zg);rintro e n2 ⟨rfl,hb⟩;refine ⟨_,rfl,?_⟩;replace aN:=zA (zq1 (zK aN.out) hb);replace HB:=zA (zq0 zB hb);clear hb))
    go_ret
    exact ⟨zT,zB⟩
   subst bK
   rw [if_pos rfl] at H
   replace H:=Option.bind_eq_some_iff.mp H
   obtain ⟨dZ,fP,H⟩:=H
   try dsimp only at H
   have dE:=zA fP
   clear fP
   by_cases ch:dZ=true
   rotate_left
   ·replace ch:=Bool.eq_false_iff.mpr ch
    subst ch
    rw [if_neg zfn] at H
    obtain rfl:=Option.some.inj H
    obtain ⟨_,_,_,_,_,_,_,_,_⟩:=zc9 aN.out
    obtain ⟨_,_,_,_,_,_,_,_,_⟩:=zf9 aN.out
    go_wp2_with (first|((with_reducible refine zq2 (f:=30) rfl ?_);refine zq4 (some 23) rfl rfl Tryz.func30 zY2 rfl #[.agg #[.string av,.string aw,.slice bS al.length bT,.slice bU an.length bV]] rfl zY0 ?_;(with_reducible refine (impl_MailOk.calls kj1 av aw _ _ al _ _ an true _ ?side1 ?side2 ?side3 ?side4 ?side5 et.out).mono ?_);(case side1=>exact zC (Kd.z0 eC.out HB.out));(case side2=>exact eD.out);(case side3=>exact zC (Kd.z0 eE.out HB.out));(case side4=>exact eF.out);(case side5=>exact zg);rintro e mC ⟨rfl,hb⟩;refine ⟨_,rfl,?_⟩;replace aN:=zA (zq1 (zK aN.out) hb);replace HB:=zA (zq0 zB hb);clear hb;obtain ⟨_,_,_,_,_,_,_,_,_⟩:=zc9 aN.out;obtain ⟨_,_,_,_,_,_,_,_,_⟩:=zf9 aN.out)|(go_at_call 31;(with_reducible refine (impl_isTime.calls aE false _ dE.out).mono ?_);rintro e w' ⟨rfl,⟨nd,rfl⟩⟩))
    go_ret
    exact ⟨zT,zB⟩
   subst ch
   rw [if_pos rfl] at H
   by_cases dQ:ab=0
   rotate_left
   ·rw [if_neg dQ] at H
    have c21b0:(ab==0)=false:=beq_eq_false_iff_ne.mpr dQ
    have c21b1:(ab != 0)=true:=bne_iff_ne.mpr dQ
    obtain rfl:=Option.some.inj H
    obtain ⟨_,_,_,_,_,_,_,_,_⟩:=zc9 aN.out
    obtain ⟨_,_,_,_,_,_,_,_,_⟩:=zf9 aN.out
    go_wp2_with (first|((with_reducible refine zq2 (f:=30) rfl ?_);refine zq4 (some 23) rfl rfl Tryz.func30 zY2 rfl #[.agg #[.string av,.string aw,.slice bS al.length bT,.slice bU an.length bV]] rfl zY0 ?_;(with_reducible refine (impl_MailOk.calls kj1 av aw _ _ al _ _ an true _ ?side1 ?side2 ?side3 ?side4 ?side5 et.out).mono ?_);(case side1=>exact zC (Kd.z0 eC.out HB.out));(case side2=>exact eD.out);(case side3=>exact zC (Kd.z0 eE.out HB.out));(case side4=>exact eF.out);(case side5=>exact zg);rintro e gb ⟨rfl,hb⟩;refine ⟨_,rfl,?_⟩;replace aN:=zA (zq1 (zK aN.out) hb);replace HB:=zA (zq0 zB hb);clear hb;obtain ⟨_,_,_,_,_,_,_,_,_⟩:=zc9 aN.out;obtain ⟨_,_,_,_,_,_,_,_,_⟩:=zf9 aN.out)|(go_at_call 31;(with_reducible refine (impl_isTime.calls aE true _ dE.out).mono ?_);rintro e w' ⟨rfl,⟨nd,rfl⟩⟩))
    go_ret
    exact ⟨zT,zB⟩
   rw [if_pos dQ] at H
   have c21b0:(ab==0)=true:=beq_iff_eq.mpr dQ
   have c21b1:(ab != 0)=false:=bne_eq_false_iff_eq.mpr dQ
   clear dQ
   replace H:=Option.bind_eq_some_iff.mp H
   obtain ⟨cX,AM,H⟩:=H
   try dsimp only at H
   have Ht:=zA AM
   clear AM
   obtain rfl:=Option.some.inj H
   obtain ⟨_,_,_,_,_,_,_,_,_⟩:=zc9 aN.out
   obtain ⟨_,_,_,_,_,_,_,_,_⟩:=zf9 aN.out
   go_wp2_with (first|((with_reducible refine zq2 (f:=30) rfl ?_);refine zq4 (some 23) rfl rfl Tryz.func30 zY2 rfl #[.agg #[.string av,.string aw,.slice bS al.length bT,.slice bU an.length bV]] rfl zY0 ?_;(with_reducible refine (impl_MailOk.calls kj1 av aw _ _ al _ _ an true _ ?side1 ?side2 ?side3 ?side4 ?side5 et.out).mono ?_);(case side1=>exact zC (Kd.z0 eC.out HB.out));(case side2=>exact eD.out);(case side3=>exact zC (Kd.z0 eE.out HB.out));(case side4=>exact eF.out);(case side5=>exact zg);rintro e qi ⟨rfl,hb⟩;refine ⟨_,rfl,?_⟩;replace aN:=zA (zq1 (zK aN.out) hb);replace HB:=zA (zq0 zB hb);clear hb;obtain ⟨_,_,_,_,_,_,_,_,_⟩:=zc9 aN.out;obtain ⟨_,_,_,_,_,_,_,_,_⟩:=zf9 aN.out)|(go_at_call 31;(with_reducible refine (impl_isTime.calls aE true _ dE.out).mono ?_);rintro e w' ⟨rfl,⟨nd,rfl⟩⟩)|(go_at_call 32;(with_reducible refine (impl_Addr_null.calls aC aD cX _ Ht.out).mono ?_);rintro e za ⟨rfl,hb⟩;replace aN:=zA (zq1 (zK aN.out) hb);replace HB:=zA (zq0 zB hb);clear hb))
   go_ret
   exact ⟨zT,zB⟩
end Go.Proofs.YtjdpdkdhfnpcgaaGreatDoor.Q
