/- Of a text of ours what this claim needs. -/
import Derived.Test.YtjdpdkdhfnpcgaaGreatDoorZzFnExactNoteGetSQ0
import Derived.Test.YtjdpdkdhfnpcgaaGreatDoorZzFnExactNoteGetSAu
import Derived.Test.YtjdpdkdhfnpcgaaGreatDoorZzFnExactNoteGetSQ14
import Derived.Test.YtjdpdkdhfnpcgaaGreatDoorZzFnExactNoteGetSQ15
import Derived.Test.YtjdpdkdhfnpcgaaGreatDoorZzFnExactNoteGetSHNum
import Derived.Test.YtjdpdkdhfnpcgaaGreatDoorZzFnExactNoteGetSHSplit
namespace Go.Proofs.YtjdpdkdhfnpcgaaGreatDoor.Q
open Go.RowKit Go.Proofs.YtjdpdkdhfnpcgaaGreatDoorW.PrintWords Go.Proofs.YtjdpdkdhfnpcgaaGreatDoorW.PrintLast Go.Proofs.YtjdpdkdhfnpcgaaGreatDoorW.PrintMore
attribute [local go_sem] max2_int min2_int max_two min_two max_three min_three max_four min_four
set_option linter.unusedVariables false
set_option linter.unusedSimpArgs false
def impl_NotePut.f (k:Nat) (aa:Int) (ab:Int) (aC:ByteArray) (aD:ByteArray) (aE:Int) (av:ByteArray) (aw:ByteArray) (al:List (S24)) (an:List ByteArray):Option (ByteArray):=(impl_NoteOk.f k aa ab aC aD aE av aw al an).bind fun dU=>(if dU=true then ((strconv_Itoa.f aE).bind fun aW=>(if aa=1 then (if 4+aW.size≤9223372036854775807 then (if ((⟨#[97,100,100,32]⟩:ByteArray)++aW).size+1≤9223372036854775807 then ((impl_MailPut.f k av aw al an).bind fun dx=>(if (((⟨#[97,100,100,32]⟩:ByteArray)++aW)++(⟨#[10]⟩:ByteArray)).size+dx.size≤9223372036854775807 then (some ((((⟨#[97,100,100,32]⟩:ByteArray)++aW)++(⟨#[10]⟩:ByteArray))++dx)) else (none))) else (none)) else (none)) else ((strconv_Itoa.f ab).bind fun bE=>(if bE.size+1≤9223372036854775807 then ((impl_Addr_text.f aC aD).bind fun ca=>(if (bE++(⟨#[32]⟩:ByteArray)).size+ca.size≤9223372036854775807 then (if aa=2 then (if 5+((bE++(⟨#[32]⟩:ByteArray))++ca).size≤9223372036854775807 then (some ((⟨#[100,111,110,101,32]⟩:ByteArray)++((bE++(⟨#[32]⟩:ByteArray))++ca))) else (none)) else (if 6+((bE++(⟨#[32]⟩:ByteArray))++ca).size≤9223372036854775807 then (if ((⟨#[108,97,116,101,114,32]⟩:ByteArray)++((bE++(⟨#[32]⟩:ByteArray))++ca)).size+1≤9223372036854775807 then (if (((⟨#[108,97,116,101,114,32]⟩:ByteArray)++((bE++(⟨#[32]⟩:ByteArray))++ca))++(⟨#[32]⟩:ByteArray)).size+aW.size≤9223372036854775807 then (some ((((⟨#[108,97,116,101,114,32]⟩:ByteArray)++((bE++(⟨#[32]⟩:ByteArray))++ca))++(⟨#[32]⟩:ByteArray))++aW)) else (none)) else (none)) else (none))) else (none))) else (none))))) else (some (⟨#[]⟩:ByteArray)))
def impl_NotePut.T6:Bool × List (List Nat × List Nat):=(true,[([],[]),([0],[0]),([1],[1]),([2],[2]),([],[]),([4],[4]),([5,2],[5]),([3,6],[3,6]),([7,6,0,1,2,3,4,5,6,7],[7])])
def impl_NotePut.B6:List Nat:=[0,1,3,7,0,16,55,127,255]
theorem impl_NotePut.tab6:rtab .any (opsOf Tryz.f8 6)=impl_NotePut.T6:=by kernel_rfl
theorem impl_NotePut.bits6:waitsOk impl_NotePut.T6.2 impl_NotePut.B6=true:=by kernel_rfl
set_option maxHeartbeats 8000000 in
set_option maxRecDepth 100000 in
theorem impl_NotePut.calls (k:Nat) (aa:Int) (ab:Int) (aC:ByteArray) (aD:ByteArray) (aE:Int) (av:ByteArray) (aw:ByteArray) (bS:Option Addr) (bT:Nat) (al:List (S24)) (bU:Option Addr) (bV:Nat) (an:List ByteArray) (r:ByteArray) (w:World) (fK:Kd.C k24 w bS al.length al) (fL:al.length≤bT) (fM:Kd.C Kd.string w bU an.length an) (fN:an.length≤bV) (hG:GOK w) (h:impl_NotePut.f k aa ab aC aD aE av aw al an=some r) :
 Calls Tryz.prog 8 #[.agg #[.int .i64 aa,.int .i64 ab,.string aC,.string aD,.int .i64 aE,.string av,.string aw,.slice bS al.length bT,.slice bU an.length bV]] w fun e w'=>e=.returned (.string r)∧Below w.heap.size w w':=by
 have hu30:=Tryz.underlying30
 have hu28:=Tryz.underlying28
 have hu24:=Tryz.underlying24
 have eC:=zA fK
 have eD:=zA fL
 clear fK fL
 have eE:=zA fM
 have eF:=zA fN
 clear fM fN
 have HG:=zA hG
 clear hG
 have HB:=zA (Below.refl w.heap.size w)
 have H:((impl_NoteOk.f k aa ab aC aD aE av aw al an).bind fun dU=>(if dU=true then ((strconv_Itoa.f aE).bind fun aW=>(if aa=1 then (if 4+aW.size≤9223372036854775807 then (if (bz6++aW).size+1≤9223372036854775807 then ((impl_MailPut.f k av aw al an).bind fun dx=>(if ((bz6++aW)++bz7).size+dx.size≤9223372036854775807 then (some (((bz6++aW)++bz7)++dx)) else (none))) else (none)) else (none)) else ((strconv_Itoa.f ab).bind fun bE=>(if bE.size+1≤9223372036854775807 then ((impl_Addr_text.f aC aD).bind fun ca=>(if (bE++bz1).size+ca.size≤9223372036854775807 then (if aa=2 then (if 5+((bE++bz1)++ca).size≤9223372036854775807 then (some (bz10++((bE++bz1)++ca))) else (none)) else (if 6+((bE++bz1)++ca).size≤9223372036854775807 then (if (bz2++((bE++bz1)++ca)).size+1≤9223372036854775807 then (if ((bz2++((bE++bz1)++ca))++bz1).size+aW.size≤9223372036854775807 then (some (((bz2++((bE++bz1)++ca))++bz1)++aW)) else (none)) else (none)) else (none))) else (none))) else (none))))) else (some bz0)))=some r:=h
 clear h
 replace H:=Option.bind_eq_some_iff.mp H
 obtain ⟨dU,bv,H⟩:=H
 try dsimp only at H
 have A2:=zA bv
 clear bv
 by_cases c3:dU=true
 rotate_left
 ·replace c3:=Bool.eq_false_iff.mpr c3
  subst c3
  rw [if_neg zfn] at H
  obtain rfl:=Option.some.inj H
  go_enter Tryz.func8,Tryz.ntmps8
  go_wp2_with (first|((with_reducible refine zq5 (N:=1) rfl ?_);refine zE (N:=1) (cs:=#[.int .i64 aa,.int .i64 ab,.string aC,.string aD,.int .i64 aE,.string av,.string aw,.slice bS al.length bT,.slice bU an.length bV]) (t:=30) ?_;intro bJ hg qn hbox hb;have aj:=zA hbox;have jB:=zA (zS hg:w.heap.size≤bJ);have jC:=zA (zS hg:w.heap.size≤bJ);replace HB:=zA (zq0 zB hb);clear hb hbox hg;obtain ⟨_,_,_,_,_,_,_,_,_⟩:=zc9 aj.out;obtain ⟨_,_,_,_,_,_,_,_,_⟩:=zf9 aj.out)|((with_reducible refine zq2 (f:=10) rfl ?_);refine zq4 (some 6) rfl rfl Tryz.func10 zY2 rfl #[.agg #[.int .i64 aa,.int .i64 ab,.string aC,.string aD,.int .i64 aE,.string av,.string aw,.slice bS al.length bT,.slice bU an.length bV]] rfl zY0 ?_;(with_reducible refine (impl_NoteOk.calls k aa ab aC aD aE av aw _ _ al _ _ an false _ ?side1 ?side2 ?side3 ?side4 ?side5 A2.out).mono ?_);(case side1=>exact zC (Kd.z0 eC.out HB.out));(case side2=>exact eD.out);(case side3=>exact zC (Kd.z0 eE.out HB.out));(case side4=>exact eF.out);(case side5=>exact zg);rintro e mE ⟨rfl,hb⟩;refine ⟨_,rfl,?_⟩;replace aj:=zA (zq1 (zK aj.out) hb);replace HB:=zA (zq0 zB hb);clear hb))
  go_ret
  exact ⟨zT,zB⟩
 subst c3
 rw [if_pos rfl] at H
 replace H:=Option.bind_eq_some_iff.mp H
 obtain ⟨aW,ci,H⟩:=H
 try dsimp only at H
 have A4:=zA ci
 clear ci
 by_cases c5:aa=1
 ·rw [if_pos c5] at H
  have c5b0:(aa==1)=true:=beq_iff_eq.mpr c5
  have c5b1:(aa != 1)=false:=bne_eq_false_iff_eq.mpr c5
  clear c5
  obtain ⟨c6,H⟩:=zp H
  have c6b0:=eq_true c6
  have c6b1:decide (4+aW.size≤9223372036854775807)=true:=decide_eq_true c6
  try have c6b2:(9223372036854775807 < 4+aW.size)=False:=eq_false (Nat.not_lt.2 c6)
  obtain ⟨c7,H⟩:=zp H
  have c7b0:=eq_true c7
  have c7b1:decide ((bz6++aW).size+1≤9223372036854775807)=true:=decide_eq_true c7
  try have c7b2:(9223372036854775807 < (bz6++aW).size+1)=False:=eq_false (Nat.not_lt.2 c7)
  try have c7b3:=c7
  try simp only [ByteArray.size_append',sz1,sz2,sz3,sz4,sz5,sz6,sz7,sz8] at c7b3
  try have c7b4:=eq_true c7b3
  try have c7b5:=eq_false (Nat.not_lt.2 c7b3)
  replace H:=Option.bind_eq_some_iff.mp H
  obtain ⟨dx,e6,H⟩:=H
  try dsimp only at H
  have A8:=zA e6
  clear e6
  obtain ⟨c9,H⟩:=zp H
  have c9b0:=eq_true c9
  have c9b1:decide (((bz6++aW)++bz7).size+dx.size≤9223372036854775807)=true:=decide_eq_true c9
  try have c9b2:(9223372036854775807 < ((bz6++aW)++bz7).size+dx.size)=False:=eq_false (Nat.not_lt.2 c9)
  try have c9b3:=c9
  try simp only [ByteArray.size_append',sz1,sz2,sz3,sz4,sz5,sz6,sz7,sz8] at c9b3
  try have c9b4:=eq_true c9b3
  try have c9b5:=eq_false (Nat.not_lt.2 c9b3)
  obtain rfl:=Option.some.inj H
  go_enter Tryz.func8,Tryz.ntmps8
  go_wp2_with (first|((with_reducible refine zq5 (N:=1) rfl ?_);refine zE (N:=1) (cs:=#[.int .i64 aa,.int .i64 ab,.string aC,.string aD,.int .i64 aE,.string av,.string aw,.slice bS al.length bT,.slice bU an.length bV]) (t:=30) ?_;intro bJ hg cv hbox hb;have aj:=zA hbox;have jB:=zA (zS hg:w.heap.size≤bJ);have jC:=zA (zS hg:w.heap.size≤bJ);replace HB:=zA (zq0 zB hb);clear hb hbox hg;obtain ⟨_,_,_,_,_,_,_,_,_⟩:=zc9 aj.out;obtain ⟨_,_,_,_,_,_,_,_,_⟩:=zf9 aj.out)|((with_reducible refine zq2 (f:=10) rfl ?_);refine zq4 (some 6) rfl rfl Tryz.func10 zY2 rfl #[.agg #[.int .i64 aa,.int .i64 ab,.string aC,.string aD,.int .i64 aE,.string av,.string aw,.slice bS al.length bT,.slice bU an.length bV]] rfl zY0 ?_;(with_reducible refine (impl_NoteOk.calls k aa ab aC aD aE av aw _ _ al _ _ an true _ ?side1 ?side2 ?side3 ?side4 ?side5 A2.out).mono ?_);(case side1=>exact zC (Kd.z0 eC.out HB.out));(case side2=>exact eD.out);(case side3=>exact zC (Kd.z0 eE.out HB.out));(case side4=>exact eF.out);(case side5=>exact zg);rintro e gx ⟨rfl,hb⟩;refine ⟨_,rfl,?_⟩;replace aj:=zA (zq1 (zK aj.out) hb);replace HB:=zA (zq0 zB hb);clear hb;obtain ⟨_,_,_,_,_,_,_,_,_⟩:=zc9 aj.out;obtain ⟨_,_,_,_,_,_,_,_,_⟩:=zf9 aj.out)|((with_reducible refine zq2 (f:=22) rfl ?_);refine zq4 (some 10) rfl rfl Tryz.func22 zY2 rfl #[.int .i64 aE] rfl zY0 ?_;(with_reducible refine (strconv_Itoa.calls aE aW _ ?side1 A4.out).mono ?_);(case side1=>exact zg);rintro e jy ⟨rfl,hb⟩;refine ⟨_,rfl,?_⟩;replace aj:=zA (zq1 (zK aj.out) hb);replace HB:=zA (zq0 zB hb);clear hb;obtain ⟨_,_,_,_,_,_,_,_,_⟩:=zc9 aj.out;obtain ⟨_,_,_,_,_,_,_,_,_⟩:=zf9 aj.out)|((with_reducible refine zq2 (f:=23) rfl ?_);refine zq4 (some 19) rfl rfl Tryz.func23 zY2 rfl #[.agg #[.string av,.string aw,.slice bS al.length bT,.slice bU an.length bV]] rfl zY0 ?_;(with_reducible refine (impl_MailPut.calls k av aw _ _ al _ _ an dx _ ?side1 ?side2 ?side3 ?side4 ?side5 A8.out).mono ?_);(case side1=>exact zC (Kd.z0 eC.out HB.out));(case side2=>exact eD.out);(case side3=>exact zC (Kd.z0 eE.out HB.out));(case side4=>exact eF.out);(case side5=>exact zg);rintro e nq ⟨rfl,hb⟩;refine ⟨_,rfl,?_⟩;replace aj:=zA (zq1 (zK aj.out) hb);replace HB:=zA (zq0 zB hb);clear hb))
  go_ret
  exact ⟨zT,zB⟩
 rw [if_neg c5] at H
 have c5b0:(aa==1)=false:=beq_eq_false_iff_ne.mpr c5
 have c5b1:(aa != 1)=true:=bne_iff_ne.mpr c5
 replace H:=Option.bind_eq_some_iff.mp H
 obtain ⟨bE,e8,H⟩:=H
 try dsimp only at H
 have et:=zA e8
 clear e8
 obtain ⟨bK,H⟩:=zp H
 have c18b0:=eq_true bK
 have c18b1:decide (bE.size+1≤9223372036854775807)=true:=decide_eq_true bK
 try have c18b2:(9223372036854775807 < bE.size+1)=False:=eq_false (Nat.not_lt.2 bK)
 replace H:=Option.bind_eq_some_iff.mp H
 obtain ⟨ca,fP,H⟩:=H
 try dsimp only at H
 have dE:=zA fP
 clear fP
 obtain ⟨ch,H⟩:=zp H
 have c20b0:=eq_true ch
 have c20b1:decide ((bE++bz1).size+ca.size≤9223372036854775807)=true:=decide_eq_true ch
 try have c20b2:(9223372036854775807 < (bE++bz1).size+ca.size)=False:=eq_false (Nat.not_lt.2 ch)
 try have c20b3:=ch
 try simp only [ByteArray.size_append',sz1,sz2,sz3,sz4,sz5,sz6,sz7,sz8] at c20b3
 try have c20b4:=eq_true c20b3
 try have c20b5:=eq_false (Nat.not_lt.2 c20b3)
 by_cases dQ:aa=2
 ·rw [if_pos dQ] at H
  have c21b0:(aa==2)=true:=beq_iff_eq.mpr dQ
  have c21b1:(aa != 2)=false:=bne_eq_false_iff_eq.mpr dQ
  clear dQ
  obtain ⟨cI,H⟩:=zp H
  have c22b0:=eq_true cI
  have c22b1:decide (5+((bE++bz1)++ca).size≤9223372036854775807)=true:=decide_eq_true cI
  try have c22b2:(9223372036854775807 < 5+((bE++bz1)++ca).size)=False:=eq_false (Nat.not_lt.2 cI)
  try have c22b3:=cI
  try simp only [ByteArray.size_append',sz1,sz2,sz3,sz4,sz5,sz6,sz7,sz8] at c22b3
  try have c22b4:=eq_true c22b3
  try have c22b5:=eq_false (Nat.not_lt.2 c22b3)
  obtain rfl:=Option.some.inj H
  go_enter Tryz.func8,Tryz.ntmps8
  try go_wp2_with (first|((with_reducible refine zq5 (N:=1) rfl ?_);refine zE (N:=1) (cs:=#[.int .i64 aa,.int .i64 ab,.string aC,.string aD,.int .i64 aE,.string av,.string aw,.slice bS al.length bT,.slice bU an.length bV]) (t:=30) ?_;intro bJ hg kI hbox hb;have aj:=zA hbox;have jB:=zA (zS hg:w.heap.size≤bJ);have jC:=zA (zS hg:w.heap.size≤bJ);replace HB:=zA (zq0 zB hb);clear hb hbox hg;obtain ⟨_,_,_,_,_,_,_,_,_⟩:=zc9 aj.out;obtain ⟨_,_,_,_,_,_,_,_,_⟩:=zf9 aj.out)|((with_reducible refine zq2 (f:=10) rfl ?_);refine zq4 (some 6) rfl rfl Tryz.func10 zY2 rfl #[.agg #[.int .i64 aa,.int .i64 ab,.string aC,.string aD,.int .i64 aE,.string av,.string aw,.slice bS al.length bT,.slice bU an.length bV]] rfl zY0 ?_;(with_reducible refine (impl_NoteOk.calls k aa ab aC aD aE av aw _ _ al _ _ an true _ ?side1 ?side2 ?side3 ?side4 ?side5 A2.out).mono ?_);(case side1=>exact zC (Kd.z0 eC.out HB.out));(case side2=>exact eD.out);(case side3=>exact zC (Kd.z0 eE.out HB.out));(case side4=>exact eF.out);(case side5=>exact zg);rintro e jA ⟨rfl,hb⟩;refine ⟨_,rfl,?_⟩;replace aj:=zA (zq1 (zK aj.out) hb);replace HB:=zA (zq0 zB hb);clear hb;obtain ⟨_,_,_,_,_,_,_,_,_⟩:=zc9 aj.out;obtain ⟨_,_,_,_,_,_,_,_,_⟩:=zf9 aj.out)|((with_reducible refine zq2 (f:=22) rfl ?_);refine zq4 (some 10) rfl rfl Tryz.func22 zY2 rfl #[.int .i64 aE] rfl zY0 ?_;(with_reducible refine (strconv_Itoa.calls aE aW _ ?side1 A4.out).mono ?_);(case side1=>exact zg);rintro e eG ⟨rfl,hb⟩;refine ⟨_,rfl,?_⟩;replace aj:=zA (zq1 (zK aj.out) hb);replace HB:=zA (zq0 zB hb);clear hb;obtain ⟨_,_,_,_,_,_,_,_,_⟩:=zc9 aj.out;obtain ⟨_,_,_,_,_,_,_,_,_⟩:=zf9 aj.out))
  replace aj:=zA (blk_drew aj.out);replace HB:=zA (below_drew1 HB.out)
  refine start_ (n:=9) (S:=fun w'=>w'.cell? ⟨bJ,0,none⟩=some (.int .i64 aa)∧w'.cell? ⟨bJ,1,none⟩=some (.int .i64 ab)∧w'.cell? ⟨bJ,2,none⟩=some (.string aC)∧w'.cell? ⟨bJ,3,none⟩=some (.string aD)∧w'.cell? ⟨bJ,4,none⟩=some (.int .i64 aE)∧w'.cell? ⟨bJ,5,none⟩=some (.string av)∧w'.cell? ⟨bJ,6,none⟩=some (.string aw)∧w'.cell? ⟨bJ,7,none⟩=some (.slice bS al.length bT)∧w'.cell? ⟨bJ,8,none⟩=some (.slice bU an.length bV)) (ds:=[]) #[false,false,false,false,false,false,false,false,false] zY2 rfl rfl ⟨zq3 aj.out 0,zq3 aj.out 1,zq3 aj.out 2,zq3 aj.out 3,zq3 aj.out 4,zq3 aj.out 5,zq3 aj.out 6,zq3 aj.out 7,zq3 aj.out 8⟩ (fun hHeld=>?_);refine with_tabW impl_NotePut.tab6 impl_NotePut.bits6 (fun HT_ HW_=>?_)
  generalize eG.drew=sT at aj HB hHeld ⊢
  refine pure_ (i:=0) (N:=some 21) (v:=?_) (a':=?_) #[true,false,false,false,false,false,false,false,false] rfl rfl (any_of HT_.out zY2) (fun _ _ _ h=>h) (Or.inl ⟨by rfl,?_⟩) ?_ ?_
  rotate_left
  ·intro w'
   go_simp
   with_reducible rfl
  rotate_left
  ·simp only [Act.put,zL0,zL1,zL2,i64_w,i32_w]
   rfl
  refine pure_ (i:=4) (N:=some 25) (v:=?_) (a':=?_) #[true,false,false,false,true,false,false,false,false] rfl rfl (any_of HT_.out zY2) (fun _ _ _ h=>h) (Or.inl ⟨by rfl,?_⟩) ?_ ?_
  rotate_left
  ·intro w'
   go_simp
   with_reducible rfl
  rotate_left
  ·simp only [Act.put,zL0,zL1,zL2,i64_w,i32_w]
   rfl
  refine take_ (i:=1) (N:=some 22) (v:=?_) (a':=?_) #[true,true,false,false,true,false,false,false,false] rfl rfl (take_ofW HT_.out HW_.out zY2) (fun _ _ _ h=>h) (Or.inl ⟨by rfl,?_⟩) hHeld ?_ ?_
  rotate_left
  ·rintro w' ⟨s0,s1,s2,s3,s4,s5,s6,s7,s8⟩
   go_simp
   with_reducible rfl
  rotate_left
  ·simp only [Act.put,zL0,zL1,zL2,i64_w,i32_w]
   rfl
  refine take_ (i:=5) (N:=some 26) (v:=?_) (a':=?_) #[true,true,false,false,true,true,false,false,false] rfl rfl (take_ofW HT_.out HW_.out zY2) (fun _ _ _ h=>h) (Or.inl ⟨by rfl,?_⟩) hHeld ?_ ?_
  rotate_left
  ·rintro w' ⟨s0,s1,s2,s3,s4,s5,s6,s7,s8⟩
   go_simp
   with_reducible rfl
  rotate_left
  ·simp only [Act.put,zL0,zL1,zL2,i64_w,i32_w]
   rfl
  refine one_ (i:=2) (N:=some 23) #[true,true,true,false,true,true,false,false,false] rfl rfl (one_of HT_.out zY2) zY4 (fun K hK=>?_)
  refine goes_ Tryz.func22 zY2 rfl #[.int .i64 ab] zY30 rfl rfl zY0 ?_
  with_reducible refine (strconv_Itoa.calls ab bE _ ?side1 et.out).mono ?_
  (case side1=>exact zg)
  rintro e uo ⟨rfl,hb⟩
  refine ⟨_,rfl,?_⟩
  replace aj:=zA (zq1 (zK aj.out) hb);replace HB:=zA (zq0 zB hb)
  (try clear hb)
  refine hK.out _ _ ⟨zq3 aj.out 0,zq3 aj.out 1,zq3 aj.out 2,zq3 aj.out 3,zq3 aj.out 4,zq3 aj.out 5,zq3 aj.out 6,zq3 aj.out 7,zq3 aj.out 8⟩ (fun hHeld=>?_)
  clear hK K
  refine norm_ (a':=?_) ?_ ?_
  rotate_left
  ·show Act.put _ (some 23) _=_
   simp only [Act.put,zL0,zL1,zL2,i64_w,i32_w]
   rfl
  refine pure_ (i:=3) (N:=some 24) (v:=?_) (a':=?_) #[true,true,true,true,true,true,false,false,false] rfl rfl (any_of HT_.out zY2) (fun _ _ _ h=>h) (Or.inl ⟨by rfl,?_⟩) ?_ ?_
  rotate_left
  ·intro w'
   go_simp
   with_reducible rfl
  rotate_left
  ·simp only [Act.put,zL0,zL1,zL2,i64_w,i32_w]
   rfl
  refine one_ (i:=6) (N:=some 27) #[true,true,true,true,true,true,true,false,false] rfl rfl (one_of HT_.out zY2) zY4 (fun K hK=>?_)
  refine goes_ Tryz.func24 zY2 rfl #[.agg #[.string aC,.string aD]] zY30 rfl rfl zY0 ?_
  with_reducible refine (impl_Addr_text.calls aC aD ca _ dE.out).mono ?_
  rintro e mC ⟨rfl,hb⟩
  refine ⟨_,rfl,?_⟩
  replace aj:=zA (zq1 (zK aj.out) hb);replace HB:=zA (zq0 zB hb)
  (try clear hb)
  refine hK.out _ _ ⟨zq3 aj.out 0,zq3 aj.out 1,zq3 aj.out 2,zq3 aj.out 3,zq3 aj.out 4,zq3 aj.out 5,zq3 aj.out 6,zq3 aj.out 7,zq3 aj.out 8⟩ (fun hHeld=>?_)
  clear hK K
  refine norm_ (a':=?_) ?_ ?_
  rotate_left
  ·show Act.put _ (some 27) _=_
   simp only [Act.put,zL0,zL1,zL2,i64_w,i32_w]
   rfl
  refine pure_ (i:=7) (N:=some 28) (v:=?_) (a':=?_) #[true,true,true,true,true,true,true,true,false] rfl rfl (any_of HT_.out zY2) (fun _ _ _ h=>h) (Or.inl ⟨by rfl,?_⟩) ?_ ?_
  rotate_left
  ·intro w'
   go_simp
   with_reducible rfl
  rotate_left
  ·simp only [Act.put,zL0,zL1,zL2,i64_w,i32_w]
   rfl
  refine pure_ (i:=8) (N:=some 4) (v:=?_) (a':=?_) #[true,true,true,true,true,true,true,true,true] rfl rfl (any_of HT_.out zY2) (fun _ _ _ h=>h) (Or.inl ⟨by rfl,?_⟩) ?_ ?_
  rotate_left
  ·intro w'
   go_simp
   with_reducible rfl
  rotate_left
  ·simp only [Act.put,zL0,zL1,zL2,i64_w,i32_w]
   rfl
  refine done_ (done_of HT_.out zY2) ?_
  obtain ⟨_,_,_,_,_,_,_,_,_⟩:=zc9 aj.out
  obtain ⟨_,_,_,_,_,_,_,_,_⟩:=zf9 aj.out
  try go_wp2
  go_ret
  exact ⟨zT,zB⟩
 rw [if_neg dQ] at H
 have c21b0:(aa==2)=false:=beq_eq_false_iff_ne.mpr dQ
 have c21b1:(aa != 2)=true:=bne_iff_ne.mpr dQ
 obtain ⟨gX,H⟩:=zp H
 have c33b0:=eq_true gX
 have c33b1:decide (6+((bE++bz1)++ca).size≤9223372036854775807)=true:=decide_eq_true gX
 try have c33b2:(9223372036854775807 < 6+((bE++bz1)++ca).size)=False:=eq_false (Nat.not_lt.2 gX)
 try have c33b3:=gX
 try simp only [ByteArray.size_append',sz1,sz2,sz3,sz4,sz5,sz6,sz7,sz8] at c33b3
 try have c33b4:=eq_true c33b3
 try have c33b5:=eq_false (Nat.not_lt.2 c33b3)
 obtain ⟨gY,H⟩:=zp H
 have c34b0:=eq_true gY
 have c34b1:decide ((bz2++((bE++bz1)++ca)).size+1≤9223372036854775807)=true:=decide_eq_true gY
 try have c34b2:(9223372036854775807 < (bz2++((bE++bz1)++ca)).size+1)=False:=eq_false (Nat.not_lt.2 gY)
 try have c34b3:=gY
 try simp only [ByteArray.size_append',sz1,sz2,sz3,sz4,sz5,sz6,sz7,sz8] at c34b3
 try have c34b4:=eq_true c34b3
 try have c34b5:=eq_false (Nat.not_lt.2 c34b3)
 obtain ⟨fD,H⟩:=zp H
 have c35b0:=eq_true fD
 have c35b1:decide (((bz2++((bE++bz1)++ca))++bz1).size+aW.size≤9223372036854775807)=true:=decide_eq_true fD
 try have c35b2:(9223372036854775807 < ((bz2++((bE++bz1)++ca))++bz1).size+aW.size)=False:=eq_false (Nat.not_lt.2 fD)
 try have c35b3:=fD
 try simp only [ByteArray.size_append',sz1,sz2,sz3,sz4,sz5,sz6,sz7,sz8] at c35b3
 try have c35b4:=eq_true c35b3
 try have c35b5:=eq_false (Nat.not_lt.2 c35b3)
 obtain rfl:=Option.some.inj H
 go_enter Tryz.func8,Tryz.ntmps8
 try go_wp2_with (first|((with_reducible refine zq5 (N:=1) rfl ?_);refine zE (N:=1) (cs:=#[.int .i64 aa,.int .i64 ab,.string aC,.string aD,.int .i64 aE,.string av,.string aw,.slice bS al.length bT,.slice bU an.length bV]) (t:=30) ?_;intro bJ hg kw hbox hb;have aj:=zA hbox;have jB:=zA (zS hg:w.heap.size≤bJ);have jC:=zA (zS hg:w.heap.size≤bJ);replace HB:=zA (zq0 zB hb);clear hb hbox hg;obtain ⟨_,_,_,_,_,_,_,_,_⟩:=zc9 aj.out;obtain ⟨_,_,_,_,_,_,_,_,_⟩:=zf9 aj.out)|((with_reducible refine zq2 (f:=10) rfl ?_);refine zq4 (some 6) rfl rfl Tryz.func10 zY2 rfl #[.agg #[.int .i64 aa,.int .i64 ab,.string aC,.string aD,.int .i64 aE,.string av,.string aw,.slice bS al.length bT,.slice bU an.length bV]] rfl zY0 ?_;(with_reducible refine (impl_NoteOk.calls k aa ab aC aD aE av aw _ _ al _ _ an true _ ?side1 ?side2 ?side3 ?side4 ?side5 A2.out).mono ?_);(case side1=>exact zC (Kd.z0 eC.out HB.out));(case side2=>exact eD.out);(case side3=>exact zC (Kd.z0 eE.out HB.out));(case side4=>exact eF.out);(case side5=>exact zg);rintro e mK ⟨rfl,hb⟩;refine ⟨_,rfl,?_⟩;replace aj:=zA (zq1 (zK aj.out) hb);replace HB:=zA (zq0 zB hb);clear hb;obtain ⟨_,_,_,_,_,_,_,_,_⟩:=zc9 aj.out;obtain ⟨_,_,_,_,_,_,_,_,_⟩:=zf9 aj.out)|((with_reducible refine zq2 (f:=22) rfl ?_);refine zq4 (some 10) rfl rfl Tryz.func22 zY2 rfl #[.int .i64 aE] rfl zY0 ?_;(with_reducible refine (strconv_Itoa.calls aE aW _ ?side1 A4.out).mono ?_);(case side1=>exact zg);rintro e qh ⟨rfl,hb⟩;refine ⟨_,rfl,?_⟩;replace aj:=zA (zq1 (zK aj.out) hb);replace HB:=zA (zq0 zB hb);clear hb;obtain ⟨_,_,_,_,_,_,_,_,_⟩:=zc9 aj.out;obtain ⟨_,_,_,_,_,_,_,_,_⟩:=zf9 aj.out))
 replace aj:=zA (blk_drew aj.out);replace HB:=zA (below_drew1 HB.out)
 refine start_ (n:=9) (S:=fun w'=>w'.cell? ⟨bJ,0,none⟩=some (.int .i64 aa)∧w'.cell? ⟨bJ,1,none⟩=some (.int .i64 ab)∧w'.cell? ⟨bJ,2,none⟩=some (.string aC)∧w'.cell? ⟨bJ,3,none⟩=some (.string aD)∧w'.cell? ⟨bJ,4,none⟩=some (.int .i64 aE)∧w'.cell? ⟨bJ,5,none⟩=some (.string av)∧w'.cell? ⟨bJ,6,none⟩=some (.string aw)∧w'.cell? ⟨bJ,7,none⟩=some (.slice bS al.length bT)∧w'.cell? ⟨bJ,8,none⟩=some (.slice bU an.length bV)) (ds:=[]) #[false,false,false,false,false,false,false,false,false] zY2 rfl rfl ⟨zq3 aj.out 0,zq3 aj.out 1,zq3 aj.out 2,zq3 aj.out 3,zq3 aj.out 4,zq3 aj.out 5,zq3 aj.out 6,zq3 aj.out 7,zq3 aj.out 8⟩ (fun hHeld=>?_);refine with_tabW impl_NotePut.tab6 impl_NotePut.bits6 (fun HT_ HW_=>?_)
 generalize qh.drew=Df at aj HB hHeld ⊢
 refine pure_ (i:=0) (N:=some 21) (v:=?_) (a':=?_) #[true,false,false,false,false,false,false,false,false] rfl rfl (any_of HT_.out zY2) (fun _ _ _ h=>h) (Or.inl ⟨by rfl,?_⟩) ?_ ?_
 rotate_left
 ·intro w'
  go_simp
  with_reducible rfl
 rotate_left
 ·simp only [Act.put,zL0,zL1,zL2,i64_w,i32_w]
  rfl
 refine pure_ (i:=4) (N:=some 25) (v:=?_) (a':=?_) #[true,false,false,false,true,false,false,false,false] rfl rfl (any_of HT_.out zY2) (fun _ _ _ h=>h) (Or.inl ⟨by rfl,?_⟩) ?_ ?_
 rotate_left
 ·intro w'
  go_simp
  with_reducible rfl
 rotate_left
 ·simp only [Act.put,zL0,zL1,zL2,i64_w,i32_w]
  rfl
 refine take_ (i:=1) (N:=some 22) (v:=?_) (a':=?_) #[true,true,false,false,true,false,false,false,false] rfl rfl (take_ofW HT_.out HW_.out zY2) (fun _ _ _ h=>h) (Or.inl ⟨by rfl,?_⟩) hHeld ?_ ?_
 rotate_left
 ·rintro w' ⟨s0,s1,s2,s3,s4,s5,s6,s7,s8⟩
  go_simp
  with_reducible rfl
 rotate_left
 ·simp only [Act.put,zL0,zL1,zL2,i64_w,i32_w]
  rfl
 refine take_ (i:=5) (N:=some 26) (v:=?_) (a':=?_) #[true,true,false,false,true,true,false,false,false] rfl rfl (take_ofW HT_.out HW_.out zY2) (fun _ _ _ h=>h) (Or.inl ⟨by rfl,?_⟩) hHeld ?_ ?_
 rotate_left
 ·rintro w' ⟨s0,s1,s2,s3,s4,s5,s6,s7,s8⟩
  go_simp
  with_reducible rfl
 rotate_left
 ·simp only [Act.put,zL0,zL1,zL2,i64_w,i32_w]
  rfl
 refine one_ (i:=2) (N:=some 23) #[true,true,true,false,true,true,false,false,false] rfl rfl (one_of HT_.out zY2) zY4 (fun K hK=>?_)
 refine goes_ Tryz.func22 zY2 rfl #[.int .i64 ab] zY30 rfl rfl zY0 ?_
 with_reducible refine (strconv_Itoa.calls ab bE _ ?side1 et.out).mono ?_
 (case side1=>exact zg)
 rintro e mF ⟨rfl,hb⟩
 refine ⟨_,rfl,?_⟩
 replace aj:=zA (zq1 (zK aj.out) hb);replace HB:=zA (zq0 zB hb)
 (try clear hb)
 refine hK.out _ _ ⟨zq3 aj.out 0,zq3 aj.out 1,zq3 aj.out 2,zq3 aj.out 3,zq3 aj.out 4,zq3 aj.out 5,zq3 aj.out 6,zq3 aj.out 7,zq3 aj.out 8⟩ (fun hHeld=>?_)
 clear hK K
 refine norm_ (a':=?_) ?_ ?_
 rotate_left
 ·show Act.put _ (some 23) _=_
  simp only [Act.put,zL0,zL1,zL2,i64_w,i32_w]
  rfl
 refine pure_ (i:=3) (N:=some 24) (v:=?_) (a':=?_) #[true,true,true,true,true,true,false,false,false] rfl rfl (any_of HT_.out zY2) (fun _ _ _ h=>h) (Or.inl ⟨by rfl,?_⟩) ?_ ?_
 rotate_left
 ·intro w'
  go_simp
  with_reducible rfl
 rotate_left
 ·simp only [Act.put,zL0,zL1,zL2,i64_w,i32_w]
  rfl
 refine one_ (i:=6) (N:=some 27) #[true,true,true,true,true,true,true,false,false] rfl rfl (one_of HT_.out zY2) zY4 (fun K hK=>?_)
 refine goes_ Tryz.func24 zY2 rfl #[.agg #[.string aC,.string aD]] zY30 rfl rfl zY0 ?_
 with_reducible refine (impl_Addr_text.calls aC aD ca _ dE.out).mono ?_
 rintro e uq ⟨rfl,hb⟩
 refine ⟨_,rfl,?_⟩
 replace aj:=zA (zq1 (zK aj.out) hb);replace HB:=zA (zq0 zB hb)
 (try clear hb)
 refine hK.out _ _ ⟨zq3 aj.out 0,zq3 aj.out 1,zq3 aj.out 2,zq3 aj.out 3,zq3 aj.out 4,zq3 aj.out 5,zq3 aj.out 6,zq3 aj.out 7,zq3 aj.out 8⟩ (fun hHeld=>?_)
 clear hK K
 refine norm_ (a':=?_) ?_ ?_
 rotate_left
 ·show Act.put _ (some 27) _=_
  simp only [Act.put,zL0,zL1,zL2,i64_w,i32_w]
  rfl
 refine pure_ (i:=7) (N:=some 28) (v:=?_) (a':=?_) #[true,true,true,true,true,true,true,true,false] rfl rfl (any_of HT_.out zY2) (fun _ _ _ h=>h) (Or.inl ⟨by rfl,?_⟩) ?_ ?_
 rotate_left
 ·intro w'
  go_simp
  with_reducible rfl
 rotate_left
 ·simp only [Act.put,zL0,zL1,zL2,i64_w,i32_w]
  rfl
 refine pure_ (i:=8) (N:=some 4) (v:=?_) (a':=?_) #[true,true,true,true,true,true,true,true,true] rfl rfl (any_of HT_.out zY2) (fun _ _ _ h=>h) (Or.inl ⟨by rfl,?_⟩) ?_ ?_
 rotate_left
 ·intro w'
  go_simp
  with_reducible rfl
 rotate_left
 ·simp only [Act.put,zL0,zL1,zL2,i64_w,i32_w]
  rfl
 refine done_ (done_of HT_.out zY2) ?_
 obtain ⟨_,_,_,_,_,_,_,_,_⟩:=zc9 aj.out
 obtain ⟨_,_,_,_,_,_,_,_,_⟩:=zf9 aj.out
 try go_wp2
 go_ret
 exact ⟨zT,zB⟩
end Go.Proofs.YtjdpdkdhfnpcgaaGreatDoor.Q
