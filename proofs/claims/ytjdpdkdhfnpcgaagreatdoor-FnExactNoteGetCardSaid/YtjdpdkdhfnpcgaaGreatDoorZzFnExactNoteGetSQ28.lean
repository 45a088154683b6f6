/- Of a text of ours what this claim needs. -/
import Derived.Test.YtjdpdkdhfnpcgaaGreatDoorZzFnExactNoteGetSQ0
import Derived.Test.YtjdpdkdhfnpcgaaGreatDoorZzFnExactNoteGetSAu
import Derived.Test.YtjdpdkdhfnpcgaaGreatDoorZzFnExactNoteGetSQ14
import Derived.Test.YtjdpdkdhfnpcgaaGreatDoorZzFnExactNoteGetSQ16
import Derived.Test.YtjdpdkdhfnpcgaaGreatDoorZzFnExactNoteGetSQ25
import Derived.Test.YtjdpdkdhfnpcgaaGreatDoorZzFnExactNoteGetSQ27
import Derived.Test.YtjdpdkdhfnpcgaaGreatDoorZzFnExactNoteGetSHNum
import Derived.Test.YtjdpdkdhfnpcgaaGreatDoorZzFnExactNoteGetSHSplit
namespace Go.Proofs.YtjdpdkdhfnpcgaaGreatDoor.Q
open Go.RowKit Go.Proofs.YtjdpdkdhfnpcgaaGreatDoorW.PrintWords Go.Proofs.YtjdpdkdhfnpcgaaGreatDoorW.PrintLast Go.Proofs.YtjdpdkdhfnpcgaaGreatDoorW.PrintMore
attribute [local go_sem] max2_int min2_int max_two min_two max_three min_three max_four min_four
set_option linter.unusedVariables false
set_option linter.unusedSimpArgs false
mutual
def impl_NoteGet.j1:Nat→ByteArray→Int→Int→ByteArray→ByteArray→Int→ByteArray→ByteArray→List (S24)→List ByteArray→Option (Int × Int × ByteArray × ByteArray × Int × ByteArray × ByteArray × (List (S24)) × List ByteArray × Bool)
 | 0,_,_,_,_,_,_,_,_,_,_=>none
 | k+1,x0,pH,pI,mn,mo,mq,j6,j7,wZ,xa=>(impl_NoteOk.f k pH pI mn mo mq j6 j7 wZ xa).bind fun xb=>(if xb=true then ((impl_NotePut.f k pH pI mn mo mq j6 j7 wZ xa).bind fun j8=>(if j8.toList=x0.toList then (some (pH,pI,mn,mo,mq,j6,j7,wZ,xa,true)) else (some (0,0,(⟨#[]⟩:ByteArray),(⟨#[]⟩:ByteArray),0,(⟨#[]⟩:ByteArray),(⟨#[]⟩:ByteArray),([]:List (S24)),([]:List ByteArray),false)))) else (some (0,0,(⟨#[]⟩:ByteArray),(⟨#[]⟩:ByteArray),0,(⟨#[]⟩:ByteArray),(⟨#[]⟩:ByteArray),([]:List (S24)),([]:List ByteArray),false)))
def impl_NoteGet.j0:Nat→ByteArray→ByteArray→ByteArray→Bool→Int→Int→ByteArray→ByteArray→Int→ByteArray→ByteArray→Option (Int × Int × ByteArray × ByteArray × Int × ByteArray × ByteArray × (List (S24)) × List ByteArray × Bool)
 | 0,_,_,_,_,_,_,_,_,_,_,_=>none
 | k+1,x0,x5,x6,HI,pH,pI,mn,mo,mq,j6,j7=>if HI=true then ((strings_Split.f x6 (⟨#[32]⟩:ByteArray)).bind fun aG=>(if 0 < (aG.length:Int) then ((impl_decimal.f (rdOf ByteArray.empty aG 0)).bind fun sj=>(if (aG.length:Int) > 1 then (if 1 < (aG.length:Int) then ((impl_AddrGet.f k (rdOf ByteArray.empty aG 1)).bind fun sk=>(if x5.toList=([108,97,116,101,114]:List UInt8) then (if 0≤(wrap64 ((aG.length:Int) - 1)) then (if (wrap64 ((aG.length:Int) - 1)) < (aG.length:Int) then ((impl_decimal.f (rdOf ByteArray.empty aG (wrap64 ((aG.length:Int) - 1)))).bind fun xc=>(impl_NoteGet.j1 k x0 3 sj.1 sk.1 sk.2.1 xc.1 j6 j7 ([]:List (S24)) ([]:List ByteArray))) else (none)) else (none)) else (impl_NoteGet.j1 k x0 2 sj.1 sk.1 sk.2.1 mq j6 j7 ([]:List (S24)) ([]:List ByteArray)))) else (none)) else (if x5.toList=([108,97,116,101,114]:List UInt8) then (if 0≤(wrap64 ((aG.length:Int) - 1)) then (if (wrap64 ((aG.length:Int) - 1)) < (aG.length:Int) then ((impl_decimal.f (rdOf ByteArray.empty aG (wrap64 ((aG.length:Int) - 1)))).bind fun xd=>(impl_NoteGet.j1 k x0 3 sj.1 mn mo xd.1 j6 j7 ([]:List (S24)) ([]:List ByteArray))) else (none)) else (none)) else (impl_NoteGet.j1 k x0 2 sj.1 mn mo mq j6 j7 ([]:List (S24)) ([]:List ByteArray))))) else (none))) else (impl_NoteGet.j1 k x0 pH pI mn mo mq j6 j7 ([]:List (S24)) ([]:List ByteArray))
end
def impl_NoteGet.f (k:Nat) (a0:ByteArray):Option (Int × Int × ByteArray × ByteArray × Int × ByteArray × ByteArray × (List (S24)) × List ByteArray × Bool):=if (a0.size:Int) > 820 then (some (0,0,(⟨#[]⟩:ByteArray),(⟨#[]⟩:ByteArray),0,(⟨#[]⟩:ByteArray),(⟨#[]⟩:ByteArray),([]:List (S24)),([]:List ByteArray),false)) else ((strings_Cut.f a0 (⟨#[32]⟩:ByteArray)).bind fun fq=>(if fq.1.toList=([97,100,100]:List UInt8) then ((strings_Cut.f fq.2.1 (⟨#[10]⟩:ByteArray)).bind fun pJ=>((impl_decimal.f pJ.1).bind fun xe=>((impl_MailGet.f k pJ.2.1).bind fun j9=>(impl_NoteGet.j1 k a0 1 0 (⟨#[]⟩:ByteArray) (⟨#[]⟩:ByteArray) xe.1 j9.1 j9.2.1 j9.2.2.1 j9.2.2.2.1)))) else (if fq.1.toList=([100,111,110,101]:List UInt8) then (impl_NoteGet.j0 k a0 fq.1 fq.2.1 (fq.1.toList==([100,111,110,101]:List UInt8)) 0 0 (⟨#[]⟩:ByteArray) (⟨#[]⟩:ByteArray) 0 (⟨#[]⟩:ByteArray) (⟨#[]⟩:ByteArray)) else (impl_NoteGet.j0 k a0 fq.1 fq.2.1 (fq.1.toList==([108,97,116,101,114]:List UInt8)) 0 0 (⟨#[]⟩:ByteArray) (⟨#[]⟩:ByteArray) 0 (⟨#[]⟩:ByteArray) (⟨#[]⟩:ByteArray)))))
set_option maxHeartbeats 8000000 in
set_option maxRecDepth 100000 in
theorem impl_NoteGet.calls (k:Nat) (a0:ByteArray) (r1:Int) (r2:Int) (r3:ByteArray) (r4:ByteArray) (r5:Int) (r6:ByteArray) (r7:ByteArray) (r8:List (S24)) (r9:List ByteArray) (iH:Bool) (w:World) (hG:GOKE w) (h:impl_NoteGet.f k a0=some (r1,r2,r3,r4,r5,r6,r7,r8,r9,iH)) :
 Calls Tryz.prog 12 #[.string a0] w fun e w'=>∃ kX kY:Value,e=.returned (.tuple #[.agg #[.int .i64 r1,.int .i64 r2,.string r3,.string r4,.int .i64 r5,.string r6,.string r7,kX,kY],.bool iH])∧Kd.R k24 24 w' w.heap.size (fun _=>True) kX r8∧Kd.R Kd.string 9 w' w.heap.size (fun _=>True) kY r9∧Below w.heap.size w w':=by
 have hu30:=Tryz.underlying30
 have hu28:=Tryz.underlying28
 have hu24:=Tryz.underlying24
 have HG:=zA hG
 clear hG
 have HB:=zA (Below.refl w.heap.size w)
 have H:(if (a0.size:Int) > 820 then (some (0,0,bz0,bz0,0,bz0,bz0,([]:List (S24)),([]:List ByteArray),false)) else ((strings_Cut.f a0 bz1).bind fun fq=>(if fq.1.toList=([97,100,100]:List UInt8) then ((strings_Cut.f fq.2.1 bz7).bind fun pJ=>((impl_decimal.f pJ.1).bind fun xe=>((impl_MailGet.f k pJ.2.1).bind fun j9=>(impl_NoteGet.j1 k a0 1 0 bz0 bz0 xe.1 j9.1 j9.2.1 j9.2.2.1 j9.2.2.2.1)))) else (if fq.1.toList=([100,111,110,101]:List UInt8) then (impl_NoteGet.j0 k a0 fq.1 fq.2.1 (fq.1.toList==([100,111,110,101]:List UInt8)) 0 0 bz0 bz0 0 bz0 bz0) else (impl_NoteGet.j0 k a0 fq.1 fq.2.1 (fq.1.toList==([108,97,116,101,114]:List UInt8)) 0 0 bz0 bz0 0 bz0 bz0)))))=some (r1,r2,r3,r4,r5,r6,r7,r8,r9,iH):=h
 clear h
 by_cases c2:(a0.size:Int) > 820
 ·rw [if_pos c2] at H
  have c2b0:decide (820 < (a0.size:Int))=true:=decide_eq_true c2
  have c2b1:decide (820 < a0.size)=true:=decide_eq_true zY6
  clear c2
  simp only [Option.some.injEq,Prod.mk.injEq] at H
  obtain ⟨rfl,rfl,rfl,rfl,rfl,rfl,rfl,rfl,rfl,rfl⟩:=H
  go_enter Tryz.func12,Tryz.ntmps12
  go_wp2_with (first|((with_reducible refine zq5 (N:=2) rfl ?_);refine zE (N:=2) (cs:=#[.int .i64 0,.int .i64 0,.string bz0,.string bz0,.int .i64 0,.string bz0,.string bz0,.slice none 0 0,.slice none 0 0]) (t:=30) ?_;intro eg hg w3 hbox hb;have bn:=zA hbox;have HJ:=zA (zS hg:w.heap.size≤eg);have HL:=zA (zS hg:w.heap.size≤eg);replace HB:=zA (zq0 zB hb);clear hb hbox hg;obtain ⟨mR,mS,se,sf,Bb,Bc,Bd,Be,Bf⟩:=zc9 bn.out;obtain ⟨mT,mU,sg,sh,Bg,Bh,Bi,Bj,Bk⟩:=zf9 bn.out))
  refine bodyPost_ret (zq13 rfl _ _ eg 30 #[.int .i64 0,.int .i64 0,.string bz0,.string bz0,.int .i64 0,.string bz0,.string bz0,.slice none 0 0,.slice none 0 0] (0,0) _ rfl (zG bn.out) Tryz.underlying30 rfl zY2) rfl ?_
  exact ⟨_,_,zT,zNil,zNil,zB⟩
 rw [if_neg c2] at H
 have c2b0:decide (820 < (a0.size:Int))=false:=decide_eq_false c2
 have c2b1:decide (820 < a0.size)=false:=decide_eq_false zY6
 clear c2
 replace H:=Option.bind_eq_some_iff.mp H
 obtain ⟨⟨aY,bA,bb⟩,dS,H⟩:=H
 try dsimp only at H
 have A5:=zA dS
 clear dS
 have lm:=zA H
 clear H
 go_enter Tryz.func12,Tryz.ntmps12
 go_upto_block 0 with (first|((with_reducible refine zq5 (N:=2) rfl ?_);refine zE (N:=2) (cs:=#[.int .i64 0,.int .i64 0,.string bz0,.string bz0,.int .i64 0,.string bz0,.string bz0,.slice none 0 0,.slice none 0 0]) (t:=30) ?_;intro eg hg w7 hbox hb;have bn:=zA hbox;have HJ:=zA (zS hg:w.heap.size≤eg);have HL:=zA (zS hg:w.heap.size≤eg);replace HB:=zA (zq0 zB hb);clear hb hbox hg)|((with_reducible refine zq5 (N:=4) rfl ?_);refine zE (N:=4) (cs:=#[.int .i64 0,.int .i64 0,.string bz0,.string bz0,.int .i64 0,.string bz0,.string bz0,.slice none 0 0,.slice none 0 0]) (t:=30) ?_;intro bI hg w8 hbox hb;have az:=zA hbox;have NV:=zA (zS hg:w.heap.size≤bI);have NW:=zA (zS hg:w.heap.size≤bI);replace HB:=zA (zq0 zB hb);have k6:=zA (zNlt hg (zK bn.out):eg≠bI);have k7:=zA (zNgt hg (zK bn.out):bI≠eg);replace bn:=zA (zq1 (zK bn.out) hb);clear hb hbox hg)|((with_reducible refine zq2 (f:=33) rfl ?_);refine zq4 (some 18) rfl rfl Tryz.func33 zY2 rfl #[.string a0,.string bz1] rfl zY0 ?_;(with_reducible refine (strings_Cut.calls a0 bz1 aY bA bb _ ?side1 A5.out).mono ?_);(case side1=>first|(with_reducible exact HG.out.weak)|((with_reducible repeat (first|exact HG.out.weak|apply GOK.drewN|apply GOK.drew));done)|exact GOK.below HG.out.weak zB);rintro e w' ⟨rfl,⟨nd,rfl⟩⟩;refine ⟨_,rfl,?_⟩))
 (try simp only [Act.put,zL0,zL1,zL2])
 go_cut [] (fun wc=>∃ (kq:Nat) (gJ:Int) (gK:Int) (gL:ByteArray) (gM:ByteArray) (gN:Int) (gO:ByteArray) (gP:ByteArray) (gQ:List (S24)) (gR:List ByteArray) (u183007:Value) (u183008:Value),Aside0 (impl_NoteGet.j1 kq a0 gJ gK gL gM gN gO gP gQ gR=some (r1,r2,r3,r4,r5,r6,r7,r8,r9,iH))∧Aside0 (kq≤k)∧Aside0 (Kd.R k24 24 wc w.heap.size (fun _=>True) u183007 gQ)∧Aside0 (Kd.R Kd.string 9 wc w.heap.size (fun _=>True) u183008 gR)∧Aside0 (wc.heap[eg]?=some (.cells #[.int .i64 0,.int .i64 0,.string bz0,.string bz0,.int .i64 0,.string bz0,.string bz0,(.slice none 0 0),(.slice none 0 0)] 30 (0,0)))∧Aside0 (wc.heap[bI]?=some (.cells #[.int .i64 gJ,.int .i64 gK,.string gL,.string gM,.int .i64 gN,.string gO,.string gP,u183007,u183008] 30 (0,0)))∧Aside0 (Below w.heap.size w wc))
 case first =>
  have H:=lm.out
  clear lm
  by_cases c9:aY.toList=([97,100,100]:List UInt8)
  ·rw [if_pos c9] at H
   have c9b0:(aY.toList==([97,100,100]:List UInt8))=true:=beq_iff_eq.mpr c9
   have c9b1:(aY.toList != ([97,100,100]:List UInt8))=false:=bne_eq_false_iff_eq.mpr c9
   clear c9
   (first|rw [c9b0]|(simp only [i64_w,i32_w];rw [c9b0])|skip)
   replace H:=Option.bind_eq_some_iff.mp H
   obtain ⟨⟨bp,cY,vq⟩,Bl,H⟩:=H
   try dsimp only at H
   have HM:=zA Bl
   clear Bl
   replace H:=Option.bind_eq_some_iff.mp H
   obtain ⟨⟨bq,HN⟩,kJ,H⟩:=H
   try dsimp only at H
   have lL:=zA kJ
   clear kJ
   replace H:=Option.bind_eq_some_iff.mp H
   obtain ⟨⟨jc,fo,pK,d5,cZ⟩,Bm,H⟩:=H
   try dsimp only at H
   have HP:=zA Bm
   clear Bm
   have H':=zA H
   clear H
   go_wp2_with (first|((with_reducible refine zq2 (f:=33) rfl ?_);refine zq4 (some 27) rfl rfl Tryz.func33 zY2 rfl #[.string bA,.string bz7] rfl zY0 ?_;(with_reducible refine (strings_Cut.calls bA bz7 bp cY vq _ ?side1 HM.out).mono ?_);(case side1=>first|(with_reducible exact HG.out.weak)|((with_reducible repeat (first|exact HG.out.weak|apply GOK.drewN|apply GOK.drew));done)|exact GOK.below HG.out.weak zB);rintro e w' ⟨rfl,⟨nd,rfl⟩⟩;refine ⟨_,rfl,?_⟩;(try (rw [drewN_self w8];generalize hq_:World.drewN w8 _=w8;have aQ:Aside0 (w8.heap[eg]?=some (.cells #[.int .i64 0,.int .i64 0,.string bz0,.string bz0,.int .i64 0,.string bz0,.string bz0,.slice none 0 0,.slice none 0 0] 30 (0,0))):=⟨by rw [← hq_];exact (zK bn.out)⟩;have aR:Aside0 (w8.heap[bI]?=some (.cells #[.int .i64 0,.int .i64 0,.string bz0,.string bz0,.int .i64 0,.string bz0,.string bz0,.slice none 0 0,.slice none 0 0] 30 (0,0))):=⟨by rw [← hq_];exact (zK az.out)⟩;have dV:Aside0 (Below w.heap.size w w8):=⟨by rw [← hq_];exact zB⟩;clear bn az HB hq_;have bn:=aQ;have az:=aR;have HB:=dV;clear aQ aR dV));have AJ:=k7.out;have AK:=k6.out;obtain ⟨pL,pM,pN,pO,pP,pQ,pR,pS,pT⟩:=zc9 az.out;obtain ⟨pU,pV,pW,pX,pY,pZ,qa,qb,qc⟩:=zf9 az.out)|((with_reducible refine zq2 (f:=34) rfl ?_);refine zq4 (some 34) rfl rfl Tryz.func34 zY2 rfl #[.string bp] rfl zY0 ?_;(with_reducible refine (impl_decimal.calls bp bq HN _ ?side1 lL.out).mono ?_);(case side1=>first|(with_reducible exact HG.out)|((with_reducible repeat (first|exact HG.out|apply GOKE.drewN|apply GOKE.drew));done)|exact GOKE.below HG.out zB);rintro e ic ⟨rfl,hb⟩;refine ⟨_,rfl,?_⟩;replace bn:=zA (zq1 (g:=eg) (o:=.cells #[.int .i64 0,.int .i64 0,.string bz0,.string bz0,.int .i64 0,.string bz0,.string bz0,.slice none 0 0,.slice none 0 0] 30 (0,0)) (zG bn.out) hb);replace az:=zA (zq1 (g:=bI) (o:=.cells #[.int .i64 1,.int .i64 0,.string bz0,.string bz0,.int .i64 0,.string bz0,.string bz0,.slice none 0 0,.slice none 0 0] 30 (0,0)) (zG az.out) hb);replace HB:=zA (zq0 zB hb);clear hb;obtain ⟨oe,of_,og,oh,Bn,Bo,Bp,Bq,Br⟩:=zc9 az.out;obtain ⟨ol,om,on_,oo,Bs,Bt,Bu,Bv,Bw⟩:=zf9 az.out)|((with_reducible refine zq2 (f:=35) rfl ?_);refine zq4 (some 40) rfl rfl Tryz.func35 zY2 rfl #[.string cY] rfl zY0 ?_;(with_reducible refine (impl_MailGet.calls k cY jc fo pK d5 cZ _ ?side1 HP.out).mono ?_);(case side1=>first|(with_reducible exact HG.out.weak)|((with_reducible repeat (first|exact HG.out.weak|apply GOK.drewN|apply GOK.drew));done)|exact GOK.below HG.out.weak zB);rintro e jz ⟨NX,NY,rfl,ar,cC,hb⟩;refine ⟨_,rfl,?_⟩;have Bx:=zA (Kd.z6 ar (zq7 zB));have By:=zA (Kd.z6 cC (zq7 zB));replace bn:=zA (zq1 (g:=eg) (o:=.cells #[.int .i64 0,.int .i64 0,.string bz0,.string bz0,.int .i64 0,.string bz0,.string bz0,.slice none 0 0,.slice none 0 0] 30 (0,0)) (zG bn.out) hb);replace az:=zA (zq1 (g:=bI) (o:=.cells #[.int .i64 1,.int .i64 0,.string bz0,.string bz0,.int .i64 bq,.string bz0,.string bz0,.slice none 0 0,.slice none 0 0] 30 (0,0)) (zG az.out) hb);replace HB:=zA (zq0 zB hb);clear hb ar cC;obtain ⟨Bz,BA,BC,BD,BE,BF,BG,BH,BI⟩:=zc9 az.out;obtain ⟨BJ,BK,BL,BM,BN,BO,BP,BQ,BR⟩:=zf9 az.out;obtain ⟨qW,oJ,vo⟩:=Kd.z9 Bx.out;subst vo;obtain ⟨pu,pv,wN⟩:=Kd.z9 By.out;subst wN))
   go_meet
   case rel=>exact ⟨_,(1),(0),(bz0),(bz0),(bq),(jc),(fo),(pK),(d5),(.slice qW pK.length oJ),(.slice pu d5.length pv),H',⟨by first|omega|exact Nat.le_refl _⟩,⟨by (with_reducible repeat (first|apply Kd.z1|apply Kd.z4|apply Kd.z3));exact Kd.z7 (Kd.z5 (p:=⟨bI,8,none⟩) (Kd.z5 (p:=⟨bI,7,none⟩) (Kd.z5 (p:=⟨bI,6,none⟩) (Kd.z5 (p:=⟨bI,5,none⟩) (Kd.z10 Bx.out az.out zY4) (fun _ hk=>hk.2) (.string jc)) (fun _ hk=>hk.2) (.string fo)) (fun _ hk=>hk.2) (.slice qW pK.length oJ)) (fun _ hk=>hk.2) (.slice pu d5.length pv)) (fun _ hk=>trivial)⟩,⟨by (with_reducible repeat (first|apply Kd.z1|apply Kd.z4|apply Kd.z3));exact Kd.z7 (Kd.z5 (p:=⟨bI,8,none⟩) (Kd.z5 (p:=⟨bI,7,none⟩) (Kd.z5 (p:=⟨bI,6,none⟩) (Kd.z5 (p:=⟨bI,5,none⟩) (Kd.z10 By.out az.out zY4) (fun _ hk=>hk.2) (.string jc)) (fun _ hk=>hk.2) (.string fo)) (fun _ hk=>hk.2) (.slice qW pK.length oJ)) (fun _ hk=>hk.2) (.slice pu d5.length pv)) (fun _ hk=>trivial)⟩,⟨zG bn.out⟩,⟨zG az.out⟩,⟨zB⟩⟩
  rw [if_neg c9] at H
  have c9b0:(aY.toList==([97,100,100]:List UInt8))=false:=beq_eq_false_iff_ne.mpr c9
  have c9b1:(aY.toList != ([97,100,100]:List UInt8))=true:=bne_iff_ne.mpr c9
  (first|rw [c9b0]|(simp only [i64_w,i32_w];rw [c9b0])|skip)
  have xf:=zA H
  clear H
  go_upto_if 44 with (fail)
  go_cut [44] (fun HQ wc=>∃ (kq:Nat) (sm:Bool),HQ=.bool sm∧Aside0 (impl_NoteGet.j0 kq a0 aY bA sm 0 0 bz0 bz0 0 bz0 bz0=some (r1,r2,r3,r4,r5,r6,r7,r8,r9,iH))∧Aside0 (kq≤k)∧Aside0 (wc.heap[eg]?=some (.cells #[.int .i64 0,.int .i64 0,.string bz0,.string bz0,.int .i64 0,.string bz0,.string bz0,(.slice none 0 0),(.slice none 0 0)] 30 (0,0)))∧Aside0 (wc.heap[bI]?=some (.cells #[.int .i64 0,.int .i64 0,.string bz0,.string bz0,.int .i64 0,.string bz0,.string bz0,(.slice none 0 0),(.slice none 0 0)] 30 (0,0)))∧Aside0 (Below w.heap.size w wc))
  case first =>
   have H:=xf.out
   clear xf
   by_cases cI:aY.toList=([100,111,110,101]:List UInt8)
   rotate_left
   ·rw [if_neg cI] at H
    have c22b0:(aY.toList==([100,111,110,101]:List UInt8))=false:=beq_eq_false_iff_ne.mpr cI
    have c22b1:(aY.toList != ([100,111,110,101]:List UInt8))=true:=bne_iff_ne.mpr cI
    (first|rw [c22b0]|(simp only [i64_w,i32_w];rw [c22b0])|skip)
    have H':=zA H
    clear H
    go_wp2
    go_meet
    case rel=>exact ⟨_,((aY.toList==([108,97,116,101,114]:List UInt8))),zY3,H',⟨by first|omega|exact Nat.le_refl _⟩,⟨zK bn.out⟩,⟨zK az.out⟩,⟨zB⟩⟩
   rw [if_pos cI] at H
   have c22b0:(aY.toList==([100,111,110,101]:List UInt8))=true:=beq_iff_eq.mpr cI
   have c22b1:(aY.toList != ([100,111,110,101]:List UInt8))=false:=bne_eq_false_iff_eq.mpr cI
   clear cI
   (first|rw [c22b0]|(simp only [i64_w,i32_w];rw [c22b0])|skip)
   have H':=zA H
   clear H
   go_wp2
   go_meet
   case rel=>exact ⟨_,((aY.toList==([100,111,110,101]:List UInt8))),zY3,H',⟨by first|omega|exact Nat.le_refl _⟩,⟨zK bn.out⟩,⟨zK az.out⟩,⟨zB⟩⟩
  case rest =>
   clear xf
   try clear c1
   try clear c2
   try clear c2b0
   try clear c2b1
   try clear p2
   try clear c3
   try clear c9
   try clear c9b0
   try clear c9b1
   try clear bH
   try clear bj
   try clear cI
   try clear c22b0
   try clear c22b1
   try clear pL pM pN pO pP pQ pR pS pT
   try clear oe of_ og oh Bn Bo Bp Bq Br
   try clear Bz BA BC BD BE BF BG BH BI
   try clear mR mS se sf Bb Bc Bd Be Bf
   try clear pU pV pW pX pY pZ qa qb qc
   try clear ol om on_ oo Bs Bt Bu Bv Bw
   try clear BJ BK BL BM BN BO BP BQ BR
   try clear mT mU sg sh Bg Bh Bi Bj Bk
   obtain ⟨kq,sm,rfl,HA,HJ20,bn,az,HB⟩:=hcut
   cases kq with
   | zero=>exact absurd HA.out (by simp [impl_NoteGet.j0])
   | succ kj20 =>
    have H:=HA.out
    clear HA
    simp only [impl_NoteGet.j0] at H
    by_cases g5:sm=true
    rotate_left
    ·replace g5:=Bool.eq_false_iff.mpr g5
     subst g5
     rw [if_neg zfn] at H
     have H':=zA H
     clear H
     go_wp2
     go_meet
     case rel=>exact ⟨_,(0),(0),(bz0),(bz0),(0),(bz0),(bz0),(([]:List (S24))),(([]:List ByteArray)),(.slice none 0 0),(.slice none 0 0),H',⟨by have:=HJ20.out;first|omega|exact Nat.le_refl _⟩,⟨zNil⟩,⟨zNil⟩,⟨zK bn.out⟩,⟨zK az.out⟩,⟨zB⟩⟩
    subst g5
    rw [if_pos rfl] at H
    replace H:=Option.bind_eq_some_iff.mp H
    obtain ⟨aG,kK,H⟩:=H
    try dsimp only at H
    have hF:=zA kK
    clear kK
    obtain ⟨hH,H⟩:=zp H
    have c25b0:decide (0 < (aG.length:Int))=true:=decide_eq_true hH
    have c25b1:decide (0 < aG.length)=true:=decide_eq_true zY6
    clear hH
    replace H:=Option.bind_eq_some_iff.mp H
    obtain ⟨⟨bm,cK⟩,oD,H⟩:=H
    try dsimp only at H
    have jQ:=zA oD
    clear oD
    by_cases eU:(aG.length:Int) > 1
    rotate_left
    ·rw [if_neg eU] at H
     have c27b0:decide (1 < (aG.length:Int))=false:=decide_eq_false eU
     have c27b1:decide (1 < aG.length)=false:=decide_eq_false zY6
     clear eU
     by_cases ka:aY.toList=([108,97,116,101,114]:List UInt8)
     rotate_left
     ·rw [if_neg ka] at H
      have c53b0:(aY.toList==([108,97,116,101,114]:List UInt8))=false:=beq_eq_false_iff_ne.mpr ka
      have c53b1:(aY.toList != ([108,97,116,101,114]:List UInt8))=true:=bne_iff_ne.mpr ka
      have H':=zA H
      clear H
      go_wp2_with (first|((with_reducible refine zq2 (f:=36) rfl ?_);refine zq4 (some 48) rfl rfl Tryz.func36 zY2 rfl #[.string bA,.string bz1] rfl zY0 ?_;(with_reducible refine (strings_Split.calls bA bz1 aG _ ?side1 hF.out).mono ?_);(case side1=>first|(with_reducible exact HG.out.weak)|((with_reducible repeat (first|exact HG.out.weak|apply GOK.drewN|apply GOK.drew));done)|exact GOK.below HG.out.weak zB);rintro e Fu ⟨xg,rfl,ar,hb⟩;refine ⟨_,rfl,?_⟩;have cA:=zA (Kd.z6 ar (zq7 zB));replace bn:=zA (zq1 (zK bn.out) hb);replace az:=zA (zq1 (zK az.out) hb);replace HB:=zA (zq0 zB hb);clear hb ar;have Fv:=k7.out;have Fw:=k6.out;obtain ⟨HS,HT,HU,HV,HW,HX,HY,HZ,H0⟩:=zc9 az.out;obtain ⟨H1,H2,H3,H4,H5,H6,H7,H8,H9⟩:=zf9 az.out;obtain ⟨oM,oN,vr⟩:=Kd.z9 cA.out;subst vr;have eK:0≤(0:Int):=zY6;have eL:0 < (aG.length:Int):=of_decide_eq_true zY1;obtain ⟨fb,jX,d8⟩:=Kd.z11 (Kd.z8 cA.out).2.2 0 eK eL;cases jX;have qi203:(0 < aG.length)=True:=eq_true zY6;(try rw [show ((0:Int)).toNat=0 from rfl] at d8);(try rw [Addr.add_zero'] at d8);have g9:fb.block≠bI:=Kd.z12 (Kd.R_ne cA.out az.out zY4);replace d8:=(zq12 (p:=⟨bI,0,none⟩) zY18 (.int .i64 2)).trans d8;clear g9;replace eK:=eq_true eK;replace eL:=eq_true eL)|((with_reducible refine zq2 (f:=34) rfl ?_);refine zq4 (some 54) rfl rfl Tryz.func34 zY2 rfl #[.string (rdOf ByteArray.empty aG 0)] rfl zY0 ?_;(with_reducible refine (impl_decimal.calls (rdOf ByteArray.empty aG 0) bm cK _ ?side1 jQ.out).mono ?_);(case side1=>first|(with_reducible exact HG.out)|((with_reducible repeat (first|exact HG.out|apply GOKE.drewN|apply GOKE.drew));done)|exact GOKE.below HG.out zB);rintro e NZ ⟨rfl,hb⟩;refine ⟨_,rfl,?_⟩;replace cA:=zA (Kd.z2 (by exact zr (Kd.z7 (Kd.z5 (p:=⟨bI,0,none⟩) (Kd.z10 cA.out az.out zY4) (fun _ hk=>hk.2) (.int .i64 2)) (fun _ h_=>h_.1))) hb);replace bn:=zA (zq1 (g:=eg) (o:=.cells #[.int .i64 0,.int .i64 0,.string bz0,.string bz0,.int .i64 0,.string bz0,.string bz0,.slice none 0 0,.slice none 0 0] 30 (0,0)) (zG bn.out) hb);replace az:=zA (zq1 (g:=bI) (o:=.cells #[.int .i64 2,.int .i64 0,.string bz0,.string bz0,.int .i64 0,.string bz0,.string bz0,.slice none 0 0,.slice none 0 0] 30 (0,0)) (zG az.out) hb);replace HB:=zA (zq0 zB hb);clear hb;obtain ⟨Ia,Ib,Ic,Id,Ie,If,Ig,Ih,Ii⟩:=zc9 az.out;obtain ⟨Ij,Ik,Il,Im,In,Io,Ip,Iq,Ir⟩:=zf9 az.out))
      go_meet
      case rel=>exact ⟨_,(2),(bm),(bz0),(bz0),(0),(bz0),(bz0),(([]:List (S24))),(([]:List ByteArray)),(.slice none 0 0),(.slice none 0 0),H',⟨by have:=HJ20.out;first|omega|exact Nat.le_refl _⟩,⟨zNil⟩,⟨zNil⟩,⟨zG bn.out⟩,⟨zG az.out⟩,⟨zB⟩⟩
     rw [if_pos ka] at H
     have c53b0:(aY.toList==([108,97,116,101,114]:List UInt8))=true:=beq_iff_eq.mpr ka
     have c53b1:(aY.toList != ([108,97,116,101,114]:List UInt8))=false:=bne_eq_false_iff_eq.mpr ka
     clear ka
     obtain ⟨iM,hji54⟩:∃ j_:Int,(wrap64 ((aG.length:Int) - 1))=j_:=⟨_,rfl⟩
     replace H:(if 0≤(iM) then (if (iM) < (aG.length:Int) then ((impl_decimal.f (rdOf ByteArray.empty aG (iM))).bind fun xd=>(impl_NoteGet.j1 kj20 a0 3 bm bz0 bz0 xd.1 bz0 bz0 ([]:List (S24)) ([]:List ByteArray))) else (none)) else (none))=some (r1,r2,r3,r4,r5,r6,r7,r8,r9,iH):=by first|(rw [hji54] at H;exact H)|(simp only [hji54] at H ⊢;exact H)
     (try rw [hji54] at hF)
     (try rw [hji54] at jQ)
     have hji54w:(IntKind.i64.wrap ((aG.length:Int) - 1))=iM:=(i64_w _).trans hji54
     obtain ⟨xh,H⟩:=zp H
     have c55b0:decide (0≤(iM))=true:=decide_eq_true xh
     clear xh
     obtain ⟨sn,H⟩:=zp H
     have c56b0:decide ((iM) < (aG.length:Int))=true:=decide_eq_true sn
     clear sn
     replace H:=Option.bind_eq_some_iff.mp H
     obtain ⟨⟨kZ,f9⟩,BS,H⟩:=H
     try dsimp only at H
     have Is:=zA BS
     clear BS
     have H':=zA H
     clear H
     go_wp2_with (first|((with_reducible refine zq2 (f:=36) rfl ?_);refine zq4 (some 48) rfl rfl Tryz.func36 zY2 rfl #[.string bA,.string bz1] rfl zY0 ?_;(with_reducible refine (strings_Split.calls bA bz1 aG _ ?side1 hF.out).mono ?_);(case side1=>first|(with_reducible exact HG.out.weak)|((with_reducible repeat (first|exact HG.out.weak|apply GOK.drewN|apply GOK.drew));done)|exact GOK.below HG.out.weak zB);rintro e yY ⟨xg,rfl,ar,hb⟩;refine ⟨_,rfl,?_⟩;have cA:=zA (Kd.z6 ar (zq7 zB));replace bn:=zA (zq1 (zK bn.out) hb);replace az:=zA (zq1 (zK az.out) hb);replace HB:=zA (zq0 zB hb);clear hb ar;have It:=k7.out;have Iu:=k6.out;obtain ⟨Iv,Iw,Ix,Iy,Iz,IB,IC,ID,IE⟩:=zc9 az.out;obtain ⟨IF,IG,IH,II,IJ,IK,IL,IM,IN⟩:=zf9 az.out;obtain ⟨qU,qV,vb⟩:=Kd.z9 cA.out;subst vb;have eK:0≤(0:Int):=zY6;have eL:0 < (aG.length:Int):=of_decide_eq_true zY1;obtain ⟨fb,jX,d8⟩:=Kd.z11 (Kd.z8 cA.out).2.2 0 eK eL;cases jX;have qi203:(0 < aG.length)=True:=eq_true zY6;(try rw [show ((0:Int)).toNat=0 from rfl] at d8);(try rw [Addr.add_zero'] at d8);have g9:fb.block≠bI:=Kd.z12 (Kd.R_ne cA.out az.out zY4);replace d8:=(zq12 (p:=⟨bI,0,none⟩) zY18 (.int .i64 2)).trans d8;clear g9;replace eK:=eq_true eK;replace eL:=eq_true eL)|((with_reducible refine zq2 (f:=34) rfl ?_);refine zq4 (some 54) rfl rfl Tryz.func34 zY2 rfl #[.string (rdOf ByteArray.empty aG 0)] rfl zY0 ?_;(with_reducible refine (impl_decimal.calls (rdOf ByteArray.empty aG 0) bm cK _ ?side1 jQ.out).mono ?_);(case side1=>first|(with_reducible exact HG.out)|((with_reducible repeat (first|exact HG.out|apply GOKE.drewN|apply GOKE.drew));done)|exact GOKE.below HG.out zB);rintro e Fz ⟨rfl,hb⟩;refine ⟨_,rfl,?_⟩;replace cA:=zA (Kd.z2 (by exact zr (Kd.z7 (Kd.z5 (p:=⟨bI,0,none⟩) (Kd.z10 cA.out az.out zY4) (fun _ hk=>hk.2) (.int .i64 2)) (fun _ h_=>h_.1))) hb);replace bn:=zA (zq1 (g:=eg) (o:=.cells #[.int .i64 0,.int .i64 0,.string bz0,.string bz0,.int .i64 0,.string bz0,.string bz0,.slice none 0 0,.slice none 0 0] 30 (0,0)) (zG bn.out) hb);replace az:=zA (zq1 (g:=bI) (o:=.cells #[.int .i64 2,.int .i64 0,.string bz0,.string bz0,.int .i64 0,.string bz0,.string bz0,.slice none 0 0,.slice none 0 0] 30 (0,0)) (zG az.out) hb);replace HB:=zA (zq0 zB hb);clear hb;obtain ⟨xi,xj,xk,xl,xm,xn,xo,xp,xq⟩:=zc9 az.out;obtain ⟨xr,xt,xu,xv,xw,xx,xy,xz,xA⟩:=zf9 az.out;have so:0≤((iM):Int):=of_decide_eq_true zY1;have sq:(iM) < (aG.length:Int):=of_decide_eq_true zY1;obtain ⟨IO_,IP,qd⟩:=Kd.z11 (Kd.z8 cA.out).2.2 (iM) so sq;obtain rfl:fb=IO_:=(by injection IP);have sr:fb.block≠bI:=Kd.z12 (Kd.R_ne cA.out az.out zY4);have ss:fb.block≠bI:=Kd.z12 (Kd.R_ne cA.out az.out zY4);replace qd:=(zq12 (p:=⟨bI,1,none⟩) (by first|(rw [zq8];exact sr)|(show (Addr.add _ _).block≠_;rw [zq8];exact sr)|exact sr) (.int .i64 bm)).trans qd;replace qd:=(zq12 (p:=⟨bI,0,none⟩) (by first|(rw [zq8];exact ss)|(show (Addr.add _ _).block≠_;rw [zq8];exact ss)|exact ss) (.int .i64 3)).trans qd;clear sr;clear ss;replace so:=eq_true so;replace sq:=eq_true sq)|((with_reducible refine zq2 (f:=34) rfl ?_);refine zq4 (some 79) rfl rfl Tryz.func34 zY2 rfl #[.string (rdOf ByteArray.empty aG (iM))] rfl (by (try simp only [zL3,zL4,zL5]);first|done|(simp only [hji54];rfl)|rfl|(simp only [zL6,zL7];rfl)) ?_;(with_reducible refine (impl_decimal.calls (rdOf ByteArray.empty aG (iM)) kZ f9 _ ?side1 Is.out).mono ?_);(case side1=>first|(with_reducible exact HG.out)|((with_reducible repeat (first|exact HG.out|apply GOKE.drewN|apply GOKE.drew));done)|exact GOKE.below HG.out zB);rintro e uV ⟨rfl,hb⟩;refine ⟨_,rfl,?_⟩;replace cA:=zA (Kd.z2 (by exact zr (Kd.z7 (Kd.z5 (p:=⟨bI,0,none⟩) (Kd.z5 (p:=⟨bI,1,none⟩) (Kd.z10 cA.out az.out zY4) (fun _ hk=>hk.2) (.int .i64 bm)) (fun _ hk=>hk.2) (.int .i64 3)) (fun _ h_=>h_.1))) hb);replace bn:=zA (zq1 (g:=eg) (o:=.cells #[.int .i64 0,.int .i64 0,.string bz0,.string bz0,.int .i64 0,.string bz0,.string bz0,.slice none 0 0,.slice none 0 0] 30 (0,0)) (zG bn.out) hb);replace az:=zA (zq1 (g:=bI) (o:=.cells #[.int .i64 3,.int .i64 bm,.string bz0,.string bz0,.int .i64 0,.string bz0,.string bz0,.slice none 0 0,.slice none 0 0] 30 (0,0)) (zG az.out) hb);replace HB:=zA (zq0 zB hb);clear hb;obtain ⟨IQ,IR,IS,IT,IU,IV,IW,IX,IY⟩:=zc9 az.out;obtain ⟨IZ,I0,I1,I2,I3,I4,I5,I6,I7⟩:=zf9 az.out))
     go_meet
     case rel=>exact ⟨_,(3),(bm),(bz0),(bz0),(kZ),(bz0),(bz0),(([]:List (S24))),(([]:List ByteArray)),(.slice none 0 0),(.slice none 0 0),H',⟨by have:=HJ20.out;first|omega|exact Nat.le_refl _⟩,⟨zNil⟩,⟨zNil⟩,⟨zG bn.out⟩,⟨zG az.out⟩,⟨zB⟩⟩
    rw [if_pos eU] at H
    have c27b0:decide (1 < (aG.length:Int))=true:=decide_eq_true eU
    have c27b1:decide (1 < aG.length)=true:=decide_eq_true zY6
    clear eU
    obtain ⟨kL,H⟩:=zp H
    have c28b0:decide (1 < (aG.length:Int))=true:=decide_eq_true kL
    have c28b1:decide (1 < aG.length)=true:=decide_eq_true zY6
    clear kL
    replace H:=Option.bind_eq_some_iff.mp H
    obtain ⟨⟨fT,fU,cw⟩,qe,H⟩:=H
    try dsimp only at H
    have mr:=zA qe
    clear qe
    by_cases fm:aY.toList=([108,97,116,101,114]:List UInt8)
    rotate_left
    ·rw [if_neg fm] at H
     have c30b0:(aY.toList==([108,97,116,101,114]:List UInt8))=false:=beq_eq_false_iff_ne.mpr fm
     have c30b1:(aY.toList != ([108,97,116,101,114]:List UInt8))=true:=bne_iff_ne.mpr fm
     have H':=zA H
     clear H
     go_wp2_with (first|((with_reducible refine zq2 (f:=36) rfl ?_);refine zq4 (some 48) rfl rfl Tryz.func36 zY2 rfl #[.string bA,.string bz1] rfl zY0 ?_;(with_reducible refine (strings_Split.calls bA bz1 aG _ ?side1 hF.out).mono ?_);(case side1=>first|(with_reducible exact HG.out.weak)|((with_reducible repeat (first|exact HG.out.weak|apply GOK.drewN|apply GOK.drew));done)|exact GOK.below HG.out.weak zB);rintro e sQ ⟨xg,rfl,ar,hb⟩;refine ⟨_,rfl,?_⟩;have cA:=zA (Kd.z6 ar (zq7 zB));replace bn:=zA (zq1 (zK bn.out) hb);replace az:=zA (zq1 (zK az.out) hb);replace HB:=zA (zq0 zB hb);clear hb ar;have Ax:=k7.out;have Ay:=k6.out;obtain ⟨vF,vG,vH,vI,vJ,vK,vL,vM,vN⟩:=zc9 az.out;obtain ⟨vO,vP,vQ,vR,vS,vT,vU,vV,vW⟩:=zf9 az.out;obtain ⟨F2,F3,vX⟩:=Kd.z9 cA.out;subst vX;have eK:0≤(0:Int):=zY6;have eL:0 < (aG.length:Int):=of_decide_eq_true zY1;obtain ⟨fb,jX,d8⟩:=Kd.z11 (Kd.z8 cA.out).2.2 0 eK eL;cases jX;have qi203:(0 < aG.length)=True:=eq_true zY6;(try rw [show ((0:Int)).toNat=0 from rfl] at d8);(try rw [Addr.add_zero'] at d8);have g9:fb.block≠bI:=Kd.z12 (Kd.R_ne cA.out az.out zY4);replace d8:=(zq12 (p:=⟨bI,0,none⟩) zY18 (.int .i64 2)).trans d8;clear g9;replace eK:=eq_true eK;replace eL:=eq_true eL)|((with_reducible refine zq2 (f:=34) rfl ?_);refine zq4 (some 54) rfl rfl Tryz.func34 zY2 rfl #[.string (rdOf ByteArray.empty aG 0)] rfl zY0 ?_;(with_reducible refine (impl_decimal.calls (rdOf ByteArray.empty aG 0) bm cK _ ?side1 jQ.out).mono ?_);(case side1=>first|(with_reducible exact HG.out)|((with_reducible repeat (first|exact HG.out|apply GOKE.drewN|apply GOKE.drew));done)|exact GOKE.below HG.out zB);rintro e F7 ⟨rfl,hb⟩;refine ⟨_,rfl,?_⟩;replace cA:=zA (Kd.z2 (by exact zr (Kd.z7 (Kd.z5 (p:=⟨bI,0,none⟩) (Kd.z10 cA.out az.out zY4) (fun _ hk=>hk.2) (.int .i64 2)) (fun _ h_=>h_.1))) hb);replace bn:=zA (zq1 (g:=eg) (o:=.cells #[.int .i64 0,.int .i64 0,.string bz0,.string bz0,.int .i64 0,.string bz0,.string bz0,.slice none 0 0,.slice none 0 0] 30 (0,0)) (zG bn.out) hb);replace az:=zA (zq1 (g:=bI) (o:=.cells #[.int .i64 2,.int .i64 0,.string bz0,.string bz0,.int .i64 0,.string bz0,.string bz0,.slice none 0 0,.slice none 0 0] 30 (0,0)) (zG az.out) hb);replace HB:=zA (zq0 zB hb);clear hb;obtain ⟨I8,I9,Ja,Jb,Jc,Jd,Je,Jf,Jg⟩:=zc9 az.out;obtain ⟨Jh,Ji,Jj,Jk,Jl,Jm,Jn,Jo,Jp⟩:=zf9 az.out;have k8:0≤(1:Int):=zY6;have k9:1 < (aG.length:Int):=of_decide_eq_true zY1;obtain ⟨xB,xC,jj⟩:=Kd.z11 (Kd.z8 cA.out).2.2 1 k8 k9;obtain rfl:fb=xB:=(by injection xC);(try simp only [show (1:Int).toNat=1 from rfl,Nat.reduceMul,Nat.reduceEqDiff,Go.Addr.add,↓reduceIte] at jj);have qi206:(1 < aG.length)=True:=eq_true zY6;(try rw [show ((1:Int)).toNat=1 from rfl] at jj);have kb:fb.block≠bI:=Kd.z12 (Kd.R_ne cA.out az.out zY4);replace jj:=(zq12 (p:=⟨bI,1,none⟩) (by first|(rw [zq8];exact kb)|(show (Addr.add _ _).block≠_;rw [zq8];exact kb)|exact kb) (.int .i64 bm)).trans jj;clear kb;replace k8:=eq_true k8;replace k9:=eq_true k9)|((with_reducible refine zq2 (f:=37) rfl ?_);refine zq4 (some 65) rfl rfl Tryz.func37 zY2 rfl #[.string (rdOf ByteArray.empty aG 1)] rfl zY0 ?_;(with_reducible refine (impl_AddrGet.calls kj20 (rdOf ByteArray.empty aG 1) fT fU cw _ ?side1 mr.out).mono ?_);(case side1=>first|(with_reducible exact HG.out.weak)|((with_reducible repeat (first|exact HG.out.weak|apply GOK.drewN|apply GOK.drew));done)|exact GOK.below HG.out.weak zB);rintro e N0 ⟨rfl,hb⟩;refine ⟨_,rfl,?_⟩;replace cA:=zA (Kd.z2 (by exact zr (Kd.z7 (Kd.z5 (p:=⟨bI,1,none⟩) (Kd.z10 cA.out az.out zY4) (fun _ hk=>hk.2) (.int .i64 bm)) (fun _ h_=>h_.1))) hb);replace bn:=zA (zq1 (g:=eg) (o:=.cells #[.int .i64 0,.int .i64 0,.string bz0,.string bz0,.int .i64 0,.string bz0,.string bz0,.slice none 0 0,.slice none 0 0] 30 (0,0)) (zG bn.out) hb);replace az:=zA (zq1 (g:=bI) (o:=.cells #[.int .i64 2,.int .i64 bm,.string bz0,.string bz0,.int .i64 0,.string bz0,.string bz0,.slice none 0 0,.slice none 0 0] 30 (0,0)) (zG az.out) hb);replace HB:=zA (zq0 zB hb);clear hb;obtain ⟨Jq,Jr,Js,Jt,Ju,Jv,Jw,Jx,Jy⟩:=zc9 az.out;obtain ⟨Jz,JA,JB,JC,JD,JE,JF,JG,JH⟩:=zf9 az.out))
     go_meet
     case rel=>exact ⟨_,(2),(bm),(fT),(fU),(0),(bz0),(bz0),(([]:List (S24))),(([]:List ByteArray)),(.slice none 0 0),(.slice none 0 0),H',⟨by have:=HJ20.out;first|omega|exact Nat.le_refl _⟩,⟨zNil⟩,⟨zNil⟩,⟨zG bn.out⟩,⟨zG az.out⟩,⟨zB⟩⟩
    rw [if_pos fm] at H
    have c30b0:(aY.toList==([108,97,116,101,114]:List UInt8))=true:=beq_iff_eq.mpr fm
    have c30b1:(aY.toList != ([108,97,116,101,114]:List UInt8))=false:=bne_eq_false_iff_eq.mpr fm
    clear fm
    obtain ⟨iN,hji31⟩:∃ j_:Int,(wrap64 ((aG.length:Int) - 1))=j_:=⟨_,rfl⟩
    replace H:(if 0≤(iN) then (if (iN) < (aG.length:Int) then ((impl_decimal.f (rdOf ByteArray.empty aG (iN))).bind fun xc=>(impl_NoteGet.j1 kj20 a0 3 bm fT fU xc.1 bz0 bz0 ([]:List (S24)) ([]:List ByteArray))) else (none)) else (none))=some (r1,r2,r3,r4,r5,r6,r7,r8,r9,iH):=by first|(rw [hji31] at H;exact H)|(simp only [hji31] at H ⊢;exact H)
    (try rw [hji31] at hF)
    (try rw [hji31] at jQ)
    (try rw [hji31] at mr)
    have hji31w:(IntKind.i64.wrap ((aG.length:Int) - 1))=iN:=(i64_w _).trans hji31
    obtain ⟨qT,H⟩:=zp H
    have c32b0:decide (0≤(iN))=true:=decide_eq_true qT
    clear qT
    obtain ⟨gX,H⟩:=zp H
    have c33b0:decide ((iN) < (aG.length:Int))=true:=decide_eq_true gX
    clear gX
    replace H:=Option.bind_eq_some_iff.mp H
    obtain ⟨⟨iF,st⟩,nH,H⟩:=H
    try dsimp only at H
    have nI:=zA nH
    clear nH
    have H':=zA H
    clear H
    go_wp2_with (first|((with_reducible refine zq2 (f:=36) rfl ?_);refine zq4 (some 48) rfl rfl Tryz.func36 zY2 rfl #[.string bA,.string bz1] rfl zY0 ?_;(with_reducible refine (strings_Split.calls bA bz1 aG _ ?side1 hF.out).mono ?_);(case side1=>first|(with_reducible exact HG.out.weak)|((with_reducible repeat (first|exact HG.out.weak|apply GOK.drewN|apply GOK.drew));done)|exact GOK.below HG.out.weak zB);rintro e mN ⟨xg,rfl,ar,hb⟩;refine ⟨_,rfl,?_⟩;have cA:=zA (Kd.z6 ar (zq7 zB));replace bn:=zA (zq1 (zK bn.out) hb);replace az:=zA (zq1 (zK az.out) hb);replace HB:=zA (zq0 zB hb);clear hb ar;have zk:=k7.out;have zl:=k6.out;obtain ⟨JI,JJ,JK,JL,JM,JN,JO,JP,JQ⟩:=zc9 az.out;obtain ⟨JR,JS,JT,JU,JV,JW,JX,JY,JZ⟩:=zf9 az.out;obtain ⟨jp,iT,wG⟩:=Kd.z9 cA.out;subst wG;have eK:0≤(0:Int):=zY6;have eL:0 < (aG.length:Int):=of_decide_eq_true zY1;obtain ⟨fb,jX,d8⟩:=Kd.z11 (Kd.z8 cA.out).2.2 0 eK eL;cases jX;have qi203:(0 < aG.length)=True:=eq_true zY6;(try rw [show ((0:Int)).toNat=0 from rfl] at d8);(try rw [Addr.add_zero'] at d8);have g9:fb.block≠bI:=Kd.z12 (Kd.R_ne cA.out az.out zY4);replace d8:=(zq12 (p:=⟨bI,0,none⟩) zY18 (.int .i64 2)).trans d8;clear g9;replace eK:=eq_true eK;replace eL:=eq_true eL)|((with_reducible refine zq2 (f:=34) rfl ?_);refine zq4 (some 54) rfl rfl Tryz.func34 zY2 rfl #[.string (rdOf ByteArray.empty aG 0)] rfl zY0 ?_;(with_reducible refine (impl_decimal.calls (rdOf ByteArray.empty aG 0) bm cK _ ?side1 jQ.out).mono ?_);(case side1=>first|(with_reducible exact HG.out)|((with_reducible repeat (first|exact HG.out|apply GOKE.drewN|apply GOKE.drew));done)|exact GOKE.below HG.out zB);rintro e nx ⟨rfl,hb⟩;refine ⟨_,rfl,?_⟩;replace cA:=zA (Kd.z2 (by exact zr (Kd.z7 (Kd.z5 (p:=⟨bI,0,none⟩) (Kd.z10 cA.out az.out zY4) (fun _ hk=>hk.2) (.int .i64 2)) (fun _ h_=>h_.1))) hb);replace bn:=zA (zq1 (g:=eg) (o:=.cells #[.int .i64 0,.int .i64 0,.string bz0,.string bz0,.int .i64 0,.string bz0,.string bz0,.slice none 0 0,.slice none 0 0] 30 (0,0)) (zG bn.out) hb);replace az:=zA (zq1 (g:=bI) (o:=.cells #[.int .i64 2,.int .i64 0,.string bz0,.string bz0,.int .i64 0,.string bz0,.string bz0,.slice none 0 0,.slice none 0 0] 30 (0,0)) (zG az.out) hb);replace HB:=zA (zq0 zB hb);clear hb;obtain ⟨oq,ot,ou,ov,xD,xE,xF,xG,xH⟩:=zc9 az.out;obtain ⟨ow,ox,oy,oz,xI,xJ,xK,xL,xM⟩:=zf9 az.out;have k8:0≤(1:Int):=zY6;have k9:1 < (aG.length:Int):=of_decide_eq_true zY1;obtain ⟨xB,xC,jj⟩:=Kd.z11 (Kd.z8 cA.out).2.2 1 k8 k9;obtain rfl:fb=xB:=(by injection xC);(try simp only [show (1:Int).toNat=1 from rfl,Nat.reduceMul,Nat.reduceEqDiff,Go.Addr.add,↓reduceIte] at jj);have qi206:(1 < aG.length)=True:=eq_true zY6;(try rw [show ((1:Int)).toNat=1 from rfl] at jj);have kb:fb.block≠bI:=Kd.z12 (Kd.R_ne cA.out az.out zY4);replace jj:=(zq12 (p:=⟨bI,1,none⟩) (by first|(rw [zq8];exact kb)|(show (Addr.add _ _).block≠_;rw [zq8];exact kb)|exact kb) (.int .i64 bm)).trans jj;clear kb;replace k8:=eq_true k8;replace k9:=eq_true k9)|((with_reducible refine zq2 (f:=37) rfl ?_);refine zq4 (some 65) rfl rfl Tryz.func37 zY2 rfl #[.string (rdOf ByteArray.empty aG 1)] rfl zY0 ?_;(with_reducible refine (impl_AddrGet.calls kj20 (rdOf ByteArray.empty aG 1) fT fU cw _ ?side1 mr.out).mono ?_);(case side1=>first|(with_reducible exact HG.out.weak)|((with_reducible repeat (first|exact HG.out.weak|apply GOK.drewN|apply GOK.drew));done)|exact GOK.below HG.out.weak zB);rintro e le ⟨rfl,hb⟩;refine ⟨_,rfl,?_⟩;replace cA:=zA (Kd.z2 (by exact zr (Kd.z7 (Kd.z5 (p:=⟨bI,1,none⟩) (Kd.z10 cA.out az.out zY4) (fun _ hk=>hk.2) (.int .i64 bm)) (fun _ h_=>h_.1))) hb);replace bn:=zA (zq1 (g:=eg) (o:=.cells #[.int .i64 0,.int .i64 0,.string bz0,.string bz0,.int .i64 0,.string bz0,.string bz0,.slice none 0 0,.slice none 0 0] 30 (0,0)) (zG bn.out) hb);replace az:=zA (zq1 (g:=bI) (o:=.cells #[.int .i64 2,.int .i64 bm,.string bz0,.string bz0,.int .i64 0,.string bz0,.string bz0,.slice none 0 0,.slice none 0 0] 30 (0,0)) (zG az.out) hb);replace HB:=zA (zq0 zB hb);clear hb;obtain ⟨xN,xO,xP,xQ,xR,xS,xT,xU,xV⟩:=zc9 az.out;obtain ⟨xW,xX,xY,xZ,ya,yb,yc,yd,ye⟩:=zf9 az.out;have sv:0≤((iN):Int):=of_decide_eq_true zY1;have sw:(iN) < (aG.length:Int):=of_decide_eq_true zY1;obtain ⟨J0,J1,ms⟩:=Kd.z11 (Kd.z8 cA.out).2.2 (iN) sv sw;obtain rfl:fb=J0:=(by injection J1);have sx:fb.block≠bI:=Kd.z12 (Kd.R_ne cA.out az.out zY4);have sy:fb.block≠bI:=Kd.z12 (Kd.R_ne cA.out az.out zY4);have sB:fb.block≠bI:=Kd.z12 (Kd.R_ne cA.out az.out zY4);replace ms:=(zq12 (p:=⟨bI,2,none⟩) (by first|(rw [zq8];exact sx)|(show (Addr.add _ _).block≠_;rw [zq8];exact sx)|exact sx) (.string fT)).trans ms;replace ms:=(zq12 (p:=⟨bI,3,none⟩) (by first|(rw [zq8];exact sy)|(show (Addr.add _ _).block≠_;rw [zq8];exact sy)|exact sy) (.string fU)).trans ms;replace ms:=(zq12 (p:=⟨bI,0,none⟩) (by first|(rw [zq8];exact sB)|(show (Addr.add _ _).block≠_;rw [zq8];exact sB)|exact sB) (.int .i64 3)).trans ms;clear sx;clear sy;clear sB;replace sv:=eq_true sv;replace sw:=eq_true sw)|((with_reducible refine zq2 (f:=34) rfl ?_);refine zq4 (some 79) rfl rfl Tryz.func34 zY2 rfl #[.string (rdOf ByteArray.empty aG (iN))] rfl (by (try simp only [zL3,zL4,zL5]);first|done|(simp only [hji31];rfl)|rfl|(simp only [zL6,zL7];rfl)) ?_;(with_reducible refine (impl_decimal.calls (rdOf ByteArray.empty aG (iN)) iF st _ ?side1 nI.out).mono ?_);(case side1=>first|(with_reducible exact HG.out)|((with_reducible repeat (first|exact HG.out|apply GOKE.drewN|apply GOKE.drew));done)|exact GOKE.below HG.out zB);rintro e mF ⟨rfl,hb⟩;refine ⟨_,rfl,?_⟩;replace cA:=zA (Kd.z2 (by exact zr (Kd.z7 (Kd.z5 (p:=⟨bI,0,none⟩) (Kd.z5 (p:=⟨bI,3,none⟩) (Kd.z5 (p:=⟨bI,2,none⟩) (Kd.z10 cA.out az.out zY4) (fun _ hk=>hk.2) (.string fT)) (fun _ hk=>hk.2) (.string fU)) (fun _ hk=>hk.2) (.int .i64 3)) (fun _ h_=>h_.1))) hb);replace bn:=zA (zq1 (g:=eg) (o:=.cells #[.int .i64 0,.int .i64 0,.string bz0,.string bz0,.int .i64 0,.string bz0,.string bz0,.slice none 0 0,.slice none 0 0] 30 (0,0)) (zG bn.out) hb);replace az:=zA (zq1 (g:=bI) (o:=.cells #[.int .i64 3,.int .i64 bm,.string fT,.string fU,.int .i64 0,.string bz0,.string bz0,.slice none 0 0,.slice none 0 0] 30 (0,0)) (zG az.out) hb);replace HB:=zA (zq0 zB hb);clear hb;obtain ⟨J2,J3,J4,J5,J6,J7,J8,J9,Ka⟩:=zc9 az.out;obtain ⟨Kb,Ke,Kf,Kg,Kh,Ki,Kj,Kk,Kl⟩:=zf9 az.out))
    go_meet
    case rel=>exact ⟨_,(3),(bm),(fT),(fU),(iF),(bz0),(bz0),(([]:List (S24))),(([]:List ByteArray)),(.slice none 0 0),(.slice none 0 0),H',⟨by have:=HJ20.out;first|omega|exact Nat.le_refl _⟩,⟨zNil⟩,⟨zNil⟩,⟨zG bn.out⟩,⟨zG az.out⟩,⟨zB⟩⟩
 case rest =>
  clear lm
  try clear c1
  try clear c2
  try clear c2b0
  try clear c2b1
  try clear p2
  try clear q2
  try clear vw
  try clear qi2
  try clear c3
  try clear c4
  try clear c5
  try clear c6
  try clear p6
  try clear c9
  try clear c9b0
  try clear c9b1
  try clear bH
  try clear bj
  try clear vA
  try clear vB
  try clear Ar
  try clear qi20
  try clear vC
  try clear vD
  try clear As
  try clear cI
  try clear c22b0
  try clear c22b1
  try clear g5
  try clear hH
  try clear c25b0
  try clear c25b1
  try clear eU
  try clear c27b0
  try clear c27b1
  try clear kL
  try clear c28b0
  try clear c28b1
  try clear fm
  try clear c30b0
  try clear c30b1
  try clear qT
  try clear c32b0
  try clear gX
  try clear c33b0
  try clear gY
  try clear fD
  try clear gj
  try clear iu
  try clear l6
  try clear ka
  try clear c53b0
  try clear c53b1
  try clear xh
  try clear c55b0
  try clear sn
  try clear c56b0
  try clear Km
  try clear N1
  try clear mt
  try clear pL pM pN pO pP pQ pR pS pT
  try clear oe of_ og oh Bn Bo Bp Bq Br
  try clear Bz BA BC BD BE BF BG BH BI
  try clear JI JJ JK JL JM JN JO JP JQ
  try clear oq ot ou ov xD xE xF xG xH
  try clear xN xO xP xQ xR xS xT xU xV
  try clear J2 J3 J4 J5 J6 J7 J8 J9 Ka
  try clear vF vG vH vI vJ vK vL vM vN
  try clear mR mS se sf Bb Bc Bd Be Bf
  try clear I8 I9 Ja Jb Jc Jd Je Jf Jg
  try clear Jq Jr Js Jt Ju Jv Jw Jx Jy
  try clear Iv Iw Ix Iy Iz IB IC ID IE
  try clear xi xj xk xl xm xn xo xp xq
  try clear IQ IR IS IT IU IV IW IX IY
  try clear HS HT HU HV HW HX HY HZ H0
  try clear Ia Ib Ic Id Ie If Ig Ih Ii
  try clear pU pV pW pX pY pZ qa qb qc
  try clear ol om on_ oo Bs Bt Bu Bv Bw
  try clear BJ BK BL BM BN BO BP BQ BR
  try clear JR JS JT JU JV JW JX JY JZ
  try clear ow ox oy oz xI xJ xK xL xM
  try clear xW xX xY xZ ya yb yc yd ye
  try clear Kb Ke Kf Kg Kh Ki Kj Kk Kl
  try clear vO vP vQ vR vS vT vU vV vW
  try clear mT mU sg sh Bg Bh Bi Bj Bk
  try clear Jh Ji Jj Jk Jl Jm Jn Jo Jp
  try clear Jz JA JB JC JD JE JF JG JH
  try clear IF IG IH II IJ IK IL IM IN
  try clear xr xt xu xv xw xx xy xz xA
  try clear IZ I0 I1 I2 I3 I4 I5 I6 I7
  try clear H1 H2 H3 H4 H5 H6 H7 H8 H9
  try clear Ij Ik Il Im In Io Ip Iq Ir
  try clear d8
  try clear jj
  try clear ms
  try clear qd
  try clear p2
  try clear eK
  try clear k8
  try clear sv
  try clear so
  try clear eL
  try clear k9
  try clear sw
  try clear sq
  obtain ⟨kq,gJ,gK,gL,gM,gN,gO,gP,gQ,gR,u183007,u183008,HA,HJ5,ek,em,bn,az,HB⟩:=hcut
  cases kq with
  | zero=>exact absurd HA.out (by simp [impl_NoteGet.j1])
  | succ kj5 =>
   have H:=HA.out
   clear HA
   simp only [impl_NoteGet.j1] at H
   replace H:=Option.bind_eq_some_iff.mp H
   obtain ⟨xb,BT,H⟩:=H
   try dsimp only at H
   have yf:=zA BT
   clear BT
   by_cases sC:xb=true
   rotate_left
   ·replace sC:=Bool.eq_false_iff.mpr sC
    subst sC
    rw [if_neg zfn] at H
    simp only [Option.some.injEq,Prod.mk.injEq] at H
    obtain ⟨rfl,rfl,rfl,rfl,rfl,rfl,rfl,rfl,rfl,rfl⟩:=H
    have N2:=k7.out
    have N3:=k6.out
    obtain ⟨_,_,_,_,_,_,_,_,_⟩:=zc9 az.out
    obtain ⟨_,_,_,_,_,_,_,_,_⟩:=zf9 az.out
    obtain ⟨Kn,Ko,Kp⟩:=Kd.z9 ek.out
    subst Kp
    obtain ⟨Kq,Kr,Ks⟩:=Kd.z9 em.out
    subst Ks
    go_wp2_with (first|((with_reducible refine zq2 (f:=10) rfl ?_);refine zq4 (some 84) rfl rfl Tryz.func10 zY2 rfl #[.agg #[.int .i64 gJ,.int .i64 gK,.string gL,.string gM,.int .i64 gN,.string gO,.string gP,.slice Kn gQ.length Ko,.slice Kq gR.length Kr]] rfl zY0 ?_;(with_reducible refine (impl_NoteOk.calls kj5 gJ gK gL gM gN gO gP _ _ gQ _ _ gR false _ ?side1 ?side2 ?side3 ?side4 ?side5 yf.out).mono ?_);(case side1=>exact zC (Kd.z8 ek.out).2.2);(case side2=>exact (Kd.z8 ek.out).2.1);(case side3=>exact zC (Kd.z8 em.out).2.2);(case side4=>exact (Kd.z8 em.out).2.1);(case side5=>first|(with_reducible exact HG.out.weak)|((with_reducible repeat (first|exact HG.out.weak|apply GOK.drewN|apply GOK.drew));done)|exact GOK.below HG.out.weak zB);rintro e N4 ⟨rfl,hb⟩;refine ⟨_,rfl,?_⟩;replace ek:=zA (Kd.z2 (zVR ek.out) hb);replace em:=zA (Kd.z2 (zVR em.out) hb);replace bn:=zA (zq1 (zK bn.out) hb);replace az:=zA (zq1 (zK az.out) hb);replace HB:=zA (zq0 zB hb);clear hb;obtain ⟨_,_,_,_,_,_,_,_,_⟩:=zc9 bn.out;obtain ⟨_,_,_,_,_,_,_,_,_⟩:=zf9 bn.out))
    refine bodyPost_ret (zq13 rfl _ _ eg 30 #[.int .i64 0,.int .i64 0,.string bz0,.string bz0,.int .i64 0,.string bz0,.string bz0,.slice none 0 0,.slice none 0 0] (0,0) _ rfl (zG bn.out) Tryz.underlying30 rfl zY2) rfl ?_
    exact ⟨_,_,zT,zNil,zNil,zB⟩
   subst sC
   rw [if_pos rfl] at H
   replace H:=Option.bind_eq_some_iff.mp H
   obtain ⟨j8,BU,H⟩:=H
   try dsimp only at H
   have BV:=zA BU
   clear BU
   by_cases mu:j8.toList=a0.toList
   rotate_left
   ·rw [if_neg mu] at H
    have c75b0:(j8.toList==a0.toList)=false:=beq_eq_false_iff_ne.mpr mu
    have c75b1:(j8.toList != a0.toList)=true:=bne_iff_ne.mpr mu
    simp only [Option.some.injEq,Prod.mk.injEq] at H
    obtain ⟨rfl,rfl,rfl,rfl,rfl,rfl,rfl,rfl,rfl,rfl⟩:=H
    have N5:=k7.out
    have N6:=k6.out
    obtain ⟨_,_,_,_,_,_,_,_,_⟩:=zc9 az.out
    obtain ⟨_,_,_,_,_,_,_,_,_⟩:=zf9 az.out
    obtain ⟨Kt,Ku,Kv⟩:=Kd.z9 ek.out
    subst Kv
    obtain ⟨Kw,Kx,Ky⟩:=Kd.z9 em.out
    subst Ky
    go_wp2_with (first|((with_reducible refine zq2 (f:=10) rfl ?_);refine zq4 (some 84) rfl rfl Tryz.func10 zY2 rfl #[.agg #[.int .i64 gJ,.int .i64 gK,.string gL,.string gM,.int .i64 gN,.string gO,.string gP,.slice Kt gQ.length Ku,.slice Kw gR.length Kx]] rfl zY0 ?_;(with_reducible refine (impl_NoteOk.calls kj5 gJ gK gL gM gN gO gP _ _ gQ _ _ gR true _ ?side1 ?side2 ?side3 ?side4 ?side5 yf.out).mono ?_);(case side1=>exact zC (Kd.z8 ek.out).2.2);(case side2=>exact (Kd.z8 ek.out).2.1);(case side3=>exact zC (Kd.z8 em.out).2.2);(case side4=>exact (Kd.z8 em.out).2.1);(case side5=>first|(with_reducible exact HG.out.weak)|((with_reducible repeat (first|exact HG.out.weak|apply GOK.drewN|apply GOK.drew));done)|exact GOK.below HG.out.weak zB);rintro e N7 ⟨rfl,hb⟩;refine ⟨_,rfl,?_⟩;replace ek:=zA (Kd.z2 (zVR ek.out) hb);replace em:=zA (Kd.z2 (zVR em.out) hb);replace bn:=zA (zq1 (zK bn.out) hb);replace az:=zA (zq1 (zK az.out) hb);replace HB:=zA (zq0 zB hb);clear hb;obtain ⟨_,_,_,_,_,_,_,_,_⟩:=zc9 az.out;obtain ⟨_,_,_,_,_,_,_,_,_⟩:=zf9 az.out)|(go_at_call 8;(with_reducible refine (impl_NotePut.calls kj5 gJ gK gL gM gN gO gP _ _ gQ _ _ gR j8 _ ?side1 ?side2 ?side3 ?side4 ?side5 BV.out).mono ?_);(case side1=>exact zC (Kd.z8 ek.out).2.2);(case side2=>exact (Kd.z8 ek.out).2.1);(case side3=>exact zC (Kd.z8 em.out).2.2);(case side4=>exact (Kd.z8 em.out).2.1);(case side5=>first|(with_reducible exact HG.out.weak)|((with_reducible repeat (first|exact HG.out.weak|apply GOK.drewN|apply GOK.drew));done)|exact GOK.below HG.out.weak zB);rintro e N8 ⟨rfl,hb⟩;replace ek:=zA (Kd.z2 (zVR ek.out) hb);replace em:=zA (Kd.z2 (zVR em.out) hb);replace bn:=zA (zq1 (zK bn.out) hb);replace az:=zA (zq1 (zK az.out) hb);replace HB:=zA (zq0 zB hb);clear hb;obtain ⟨_,_,_,_,_,_,_,_,_⟩:=zc9 bn.out;obtain ⟨_,_,_,_,_,_,_,_,_⟩:=zf9 bn.out))
    refine bodyPost_ret (zq13 rfl _ _ eg 30 #[.int .i64 0,.int .i64 0,.string bz0,.string bz0,.int .i64 0,.string bz0,.string bz0,.slice none 0 0,.slice none 0 0] (0,0) _ rfl (zG bn.out) Tryz.underlying30 rfl zY2) rfl ?_
    exact ⟨_,_,zT,zNil,zNil,zB⟩
   rw [if_pos mu] at H
   have c75b0:(j8.toList==a0.toList)=true:=beq_iff_eq.mpr mu
   have c75b1:(j8.toList != a0.toList)=false:=bne_eq_false_iff_eq.mpr mu
   clear mu
   simp only [Option.some.injEq,Prod.mk.injEq] at H
   obtain ⟨rfl,rfl,rfl,rfl,rfl,rfl,rfl,rfl,rfl,rfl⟩:=H
   have N9:=k7.out
   have Oa:=k6.out
   obtain ⟨_,_,_,_,_,_,_,_,_⟩:=zc9 az.out
   obtain ⟨_,_,_,_,_,_,_,_,_⟩:=zf9 az.out
   obtain ⟨sD,sE,Kz⟩:=Kd.z9 ek.out
   subst Kz
   obtain ⟨sF,sG,KA⟩:=Kd.z9 em.out
   subst KA
   go_wp2_with (first|((with_reducible refine zq2 (f:=10) rfl ?_);refine zq4 (some 84) rfl rfl Tryz.func10 zY2 rfl #[.agg #[.int .i64 gJ,.int .i64 gK,.string gL,.string gM,.int .i64 gN,.string gO,.string gP,.slice sD gQ.length sE,.slice sF gR.length sG]] rfl zY0 ?_;(with_reducible refine (impl_NoteOk.calls kj5 gJ gK gL gM gN gO gP _ _ gQ _ _ gR true _ ?side1 ?side2 ?side3 ?side4 ?side5 yf.out).mono ?_);(case side1=>exact zC (Kd.z8 ek.out).2.2);(case side2=>exact (Kd.z8 ek.out).2.1);(case side3=>exact zC (Kd.z8 em.out).2.2);(case side4=>exact (Kd.z8 em.out).2.1);(case side5=>first|(with_reducible exact HG.out.weak)|((with_reducible repeat (first|exact HG.out.weak|apply GOK.drewN|apply GOK.drew));done)|exact GOK.below HG.out.weak zB);rintro e KB ⟨rfl,hb⟩;refine ⟨_,rfl,?_⟩;replace ek:=zA (Kd.z2 (zVR ek.out) hb);replace em:=zA (Kd.z2 (zVR em.out) hb);replace bn:=zA (zq1 (zK bn.out) hb);replace az:=zA (zq1 (zK az.out) hb);replace HB:=zA (zq0 zB hb);clear hb;obtain ⟨_,_,_,_,_,_,_,_,_⟩:=zc9 az.out;obtain ⟨_,_,_,_,_,_,_,_,_⟩:=zf9 az.out)|(go_at_call 8;(with_reducible refine (impl_NotePut.calls kj5 gJ gK gL gM gN gO gP _ _ gQ _ _ gR j8 _ ?side1 ?side2 ?side3 ?side4 ?side5 BV.out).mono ?_);(case side1=>exact zC (Kd.z8 ek.out).2.2);(case side2=>exact (Kd.z8 ek.out).2.1);(case side3=>exact zC (Kd.z8 em.out).2.2);(case side4=>exact (Kd.z8 em.out).2.1);(case side5=>first|(with_reducible exact HG.out.weak)|((with_reducible repeat (first|exact HG.out.weak|apply GOK.drewN|apply GOK.drew));done)|exact GOK.below HG.out.weak zB);rintro e Ob ⟨rfl,hb⟩;replace ek:=zA (Kd.z2 (zVR ek.out) hb);replace em:=zA (Kd.z2 (zVR em.out) hb);replace bn:=zA (zq1 (zK bn.out) hb);replace az:=zA (zq1 (zK az.out) hb);replace HB:=zA (zq0 zB hb);clear hb;obtain ⟨_,_,_,_,_,_,_,_,_⟩:=zc9 az.out;obtain ⟨_,_,_,_,_,_,_,_,_⟩:=zf9 az.out;obtain ⟨_,_,_,_,_,_,_,_,_⟩:=zc9 bn.out;obtain ⟨_,_,_,_,_,_,_,_,_⟩:=zf9 bn.out))
   refine bodyPost_ret (zq13 rfl _ _ eg 30 #[.int .i64 gJ,.int .i64 gK,.string gL,.string gM,.int .i64 gN,.string gO,.string gP,.slice sD gQ.length sE,.slice sF gR.length sG] (0,0) _ rfl (zG bn.out) Tryz.underlying30 rfl zY2) rfl ?_
   exact ⟨_,_,zT,by (with_reducible repeat (first|apply Kd.z1|apply Kd.z4|apply Kd.z3));exact Kd.z7 (zR9 eg (Kd.z10 ek.out bn.out zY4) (.int .i64 gJ) (.int .i64 gK) (.string gL) (.string gM) (.int .i64 gN) (.string gO) (.string gP) (.slice sD gQ.length sE) (.slice sF gR.length sG)) (fun _ hk=>trivial),by (with_reducible repeat (first|apply Kd.z1|apply Kd.z4|apply Kd.z3));exact Kd.z7 (zR9 eg (Kd.z10 em.out bn.out zY4) (.int .i64 gJ) (.int .i64 gK) (.string gL) (.string gM) (.int .i64 gN) (.string gO) (.string gP) (.slice sD gQ.length sE) (.slice sF gR.length sG)) (fun _ hk=>trivial),zB⟩
end Go.Proofs.YtjdpdkdhfnpcgaaGreatDoor.Q
