/- Of a text of ours what this claim needs. -/
import Derived.Test.YtjdpdkdhfnpcgaaGreatDoorZzFnExactNoteGetSQ0
import Derived.Test.YtjdpdkdhfnpcgaaGreatDoorZzFnExactNoteGetSAu
import Derived.Test.YtjdpdkdhfnpcgaaGreatDoorZzFnExactNoteGetSQ11
import Derived.Test.YtjdpdkdhfnpcgaaGreatDoorZzFnExactNoteGetSQ13
import Derived.Test.YtjdpdkdhfnpcgaaGreatDoorZzFnExactNoteGetSHDot
import Derived.Test.YtjdpdkdhfnpcgaaGreatDoorZzFnExactNoteGetSHSplit
namespace Go.Proofs.YtjdpdkdhfnpcgaaGreatDoor.Q
open Go.RowKit Go.Proofs.YtjdpdkdhfnpcgaaGreatDoorW.PrintWords Go.Proofs.YtjdpdkdhfnpcgaaGreatDoorW.PrintLast Go.Proofs.YtjdpdkdhfnpcgaaGreatDoorW.PrintMore
attribute [local go_sem] max2_int min2_int max_two min_two max_three min_three max_four min_four
set_option linter.unusedVariables false
set_option linter.unusedSimpArgs false
def impl_Addr_text.f (aa:ByteArray) (ab:ByteArray):Option (ByteArray):=(impl_Addr_null.f aa ab).bind fun cM=>(if cM=true then (some (⟨#[60,62]⟩:ByteArray)) else (if 1+aa.size≤9223372036854775807 then (if ((⟨#[60]⟩:ByteArray)++aa).size+1≤9223372036854775807 then (if (((⟨#[60]⟩:ByteArray)++aa)++(⟨#[64]⟩:ByteArray)).size+ab.size≤9223372036854775807 then (if ((((⟨#[60]⟩:ByteArray)++aa)++(⟨#[64]⟩:ByteArray))++ab).size+1≤9223372036854775807 then (some (((((⟨#[60]⟩:ByteArray)++aa)++(⟨#[64]⟩:ByteArray))++ab)++(⟨#[62]⟩:ByteArray))) else (none)) else (none)) else (none)) else (none)))
set_option maxHeartbeats 8000000 in
set_option maxRecDepth 100000 in
theorem impl_Addr_text.calls (aa:ByteArray) (ab:ByteArray) (r:ByteArray) (w:World) (h:impl_Addr_text.f aa ab=some r) :
 Calls Tryz.prog 24 #[.agg #[.string aa,.string ab]] w fun e w'=>e=.returned (.string r)∧Below w.heap.size w w':=by
 have hu24:=Tryz.underlying24
 have HB:=zA (Below.refl w.heap.size w)
 have H:((impl_Addr_null.f aa ab).bind fun cM=>(if cM=true then (some bz13) else (if 1+aa.size≤9223372036854775807 then (if (bz3++aa).size+1≤9223372036854775807 then (if ((bz3++aa)++bz4).size+ab.size≤9223372036854775807 then (if (((bz3++aa)++bz4)++ab).size+1≤9223372036854775807 then (some ((((bz3++aa)++bz4)++ab)++bz11)) else (none)) else (none)) else (none)) else (none))))=some r:=h
 clear h
 replace H:=Option.bind_eq_some_iff.mp H
 obtain ⟨cM,bv,H⟩:=H
 try dsimp only at H
 have A2:=zA bv
 clear bv
 by_cases c3:cM=true
 ·subst c3
  rw [if_pos rfl] at H
  obtain rfl:=Option.some.inj H
  go_enter Tryz.func24,Tryz.ntmps24
  go_wp2_with (first|((with_reducible refine zq5 (N:=1) rfl ?_);refine zE (N:=1) (cs:=#[.string aa,.string ab]) (t:=24) ?_;intro b3 hg w4 hbox hb;have aI:=zA hbox;have gt:=zA (zS hg:w.heap.size≤b3);have gu:=zA (zS hg:w.heap.size≤b3);replace HB:=zA (zq0 zB hb);clear hb hbox hg;obtain ⟨_,_⟩:=zc2 aI.out;obtain ⟨_,_⟩:=zf2 aI.out)|((with_reducible refine zq2 (f:=32) rfl ?_);refine zq4 (some 4) rfl rfl Tryz.func32 zY2 rfl #[.agg #[.string aa,.string ab]] rfl zY0 ?_;(with_reducible refine (impl_Addr_null.calls aa ab true _ A2.out).mono ?_);rintro e w6 ⟨rfl,hb⟩;refine ⟨_,rfl,?_⟩;replace aI:=zA (zq1 (zK aI.out) hb);replace HB:=zA (zq0 zB hb);clear hb))
  go_ret
  exact ⟨zT,zB⟩
 replace c3:=Bool.eq_false_iff.mpr c3
 subst c3
 rw [if_neg zfn] at H
 obtain ⟨c7,H⟩:=zp H
 have c7b0:=eq_true c7
 have c7b1:decide (1+aa.size≤9223372036854775807)=true:=decide_eq_true c7
 try have c7b2:(9223372036854775807 < 1+aa.size)=False:=eq_false (Nat.not_lt.2 c7)
 obtain ⟨c8,H⟩:=zp H
 have c8b0:=eq_true c8
 have c8b1:decide ((bz3++aa).size+1≤9223372036854775807)=true:=decide_eq_true c8
 try have c8b2:(9223372036854775807 < (bz3++aa).size+1)=False:=eq_false (Nat.not_lt.2 c8)
 try have c8b3:=c8
 try simp only [ByteArray.size_append',sz1,sz2,sz3,sz4,sz5,sz6,sz7,sz8] at c8b3
 try have c8b4:=eq_true c8b3
 try have c8b5:=eq_false (Nat.not_lt.2 c8b3)
 obtain ⟨c9,H⟩:=zp H
 have c9b0:=eq_true c9
 have c9b1:decide (((bz3++aa)++bz4).size+ab.size≤9223372036854775807)=true:=decide_eq_true c9
 try have c9b2:(9223372036854775807 < ((bz3++aa)++bz4).size+ab.size)=False:=eq_false (Nat.not_lt.2 c9)
 try have c9b3:=c9
 try simp only [ByteArray.size_append',sz1,sz2,sz3,sz4,sz5,sz6,sz7,sz8] at c9b3
 try have c9b4:=eq_true c9b3
 try have c9b5:=eq_false (Nat.not_lt.2 c9b3)
 obtain ⟨ce,H⟩:=zp H
 have c10b0:=eq_true ce
 have c10b1:decide ((((bz3++aa)++bz4)++ab).size+1≤9223372036854775807)=true:=decide_eq_true ce
 try have c10b2:(9223372036854775807 < (((bz3++aa)++bz4)++ab).size+1)=False:=eq_false (Nat.not_lt.2 ce)
 try have c10b3:=ce
 try simp only [ByteArray.size_append',sz1,sz2,sz3,sz4,sz5,sz6,sz7,sz8] at c10b3
 try have c10b4:=eq_true c10b3
 try have c10b5:=eq_false (Nat.not_lt.2 c10b3)
 obtain rfl:=Option.some.inj H
 go_enter Tryz.func24,Tryz.ntmps24
 go_wp2_with (first|((with_reducible refine zq5 (N:=1) rfl ?_);refine zE (N:=1) (cs:=#[.string aa,.string ab]) (t:=24) ?_;intro b3 hg gv hbox hb;have aI:=zA hbox;have gt:=zA (zS hg:w.heap.size≤b3);have gu:=zA (zS hg:w.heap.size≤b3);replace HB:=zA (zq0 zB hb);clear hb hbox hg;obtain ⟨_,_⟩:=zc2 aI.out;obtain ⟨_,_⟩:=zf2 aI.out)|((with_reducible refine zq2 (f:=32) rfl ?_);refine zq4 (some 4) rfl rfl Tryz.func32 zY2 rfl #[.agg #[.string aa,.string ab]] rfl zY0 ?_;(with_reducible refine (impl_Addr_null.calls aa ab false _ A2.out).mono ?_);rintro e g0 ⟨rfl,hb⟩;refine ⟨_,rfl,?_⟩;replace aI:=zA (zq1 (zK aI.out) hb);replace HB:=zA (zq0 zB hb);clear hb;obtain ⟨_,_⟩:=zc2 aI.out;obtain ⟨_,_⟩:=zf2 aI.out))
 go_ret
 exact ⟨zT,zB⟩
def impl_MailPut.l0:Nat→ByteArray→List (S24)→Int→Int→ByteArray→ByteArray→List (S24)→List ByteArray→Option (ByteArray)
 | 0,_,_,_,_,_,_,_,_=>none
 | k+1,x3,qs,zb,mQ,D9,Ea,Eb,zc=>if mQ < zb then (if 0≤mQ then (if mQ < (qs.length:Int) then ((impl_Addr_text.f ((zq6 qs mQ).f0) ((zq6 qs mQ).f1)).bind fun dN=>(if 3+dN.size≤9223372036854775807 then (if ((⟨#[116,111,32]⟩:ByteArray)++dN).size+2≤9223372036854775807 then (if x3.size+(((⟨#[116,111,32]⟩:ByteArray)++dN)++(⟨#[13,10]⟩:ByteArray)).size≤9223372036854775807 then (impl_MailPut.l0 k (x3++(((⟨#[116,111,32]⟩:ByteArray)++dN)++(⟨#[13,10]⟩:ByteArray))) qs zb (wrap64 (mQ+1)) D9 Ea Eb zc) else (none)) else (none)) else (none))) else (none)) else (none)) else (if x3.size+2≤9223372036854775807 then ((impl_dotted.f zc).bind fun dZ=>(if (x3++(⟨#[13,10]⟩:ByteArray)).size+dZ.size≤9223372036854775807 then (some ((x3++(⟨#[13,10]⟩:ByteArray))++dZ)) else (none))) else (none))
def impl_MailPut.f (k:Nat) (aa:ByteArray) (ab:ByteArray) (af:List (S24)) (ap:List ByteArray):Option (ByteArray):=(impl_MailOk.f k aa ab af ap).bind fun cM=>(if cM=true then ((impl_Addr_text.f aa ab).bind fun bR=>(if 5+bR.size≤9223372036854775807 then (if ((⟨#[102,114,111,109,32]⟩:ByteArray)++bR).size+2≤9223372036854775807 then (impl_MailPut.l0 k (((⟨#[102,114,111,109,32]⟩:ByteArray)++bR)++(⟨#[13,10]⟩:ByteArray)) af (af.length:Int) 0 aa ab af ap) else (none)) else (none))) else (some (⟨#[]⟩:ByteArray)))
set_option maxHeartbeats 8000000 in
set_option maxRecDepth 100000 in
theorem impl_MailPut.calls (k:Nat) (aa:ByteArray) (ab:ByteArray) (b9:Option Addr) (b4:Nat) (af:List (S24)) (b5:Option Addr) (b6:Nat) (ap:List ByteArray) (r:ByteArray) (w:World) (eX:Kd.C k24 w b9 af.length af) (eY:af.length≤b4) (eZ:Kd.C Kd.string w b5 ap.length ap) (e5:ap.length≤b6) (hG:GOK w) (h:impl_MailPut.f k aa ab af ap=some r) :
 Calls Tryz.prog 23 #[.agg #[.string aa,.string ab,.slice b9 af.length b4,.slice b5 ap.length b6]] w fun e w'=>e=.returned (.string r)∧Below w.heap.size w w':=by
 have hu28:=Tryz.underlying28
 have hu24:=Tryz.underlying24
 have d6:=zA eX
 have fe:=zA eY
 clear eX eY
 have eP:=zA eZ
 have eQ:=zA e5
 clear eZ e5
 have HG:=zA hG
 clear hG
 have HB:=zA (Below.refl w.heap.size w)
 have H:((impl_MailOk.f k aa ab af ap).bind fun cM=>(if cM=true then ((impl_Addr_text.f aa ab).bind fun bR=>(if 5+bR.size≤9223372036854775807 then (if (bz8++bR).size+2≤9223372036854775807 then (impl_MailPut.l0 k ((bz8++bR)++bz5) af (af.length:Int) 0 aa ab af ap) else (none)) else (none))) else (some bz0)))=some r:=h
 clear h
 replace H:=Option.bind_eq_some_iff.mp H
 obtain ⟨cM,bv,H⟩:=H
 try dsimp only at H
 have A2:=zA bv
 clear bv
 by_cases c3:cM=true
 rotate_left
 ·replace c3:=Bool.eq_false_iff.mpr c3
  subst c3
  rw [if_neg zfn] at H
  obtain rfl:=Option.some.inj H
  go_enter Tryz.func23,Tryz.ntmps23
  go_wp2_with (first|((with_reducible refine zq5 (N:=1) rfl ?_);refine zE (N:=1) (cs:=#[.string aa,.string ab,.slice b9 af.length b4,.slice b5 ap.length b6]) (t:=28) ?_;intro b3 hg sT hbox hb;have aI:=zA hbox;have gt:=zA (zS hg:w.heap.size≤b3);have gu:=zA (zS hg:w.heap.size≤b3);replace HB:=zA (zq0 zB hb);clear hb hbox hg;obtain ⟨_,_,_,_⟩:=zc4 aI.out;obtain ⟨_,_,_,_⟩:=zf4 aI.out)|((with_reducible refine zq2 (f:=30) rfl ?_);refine zq4 (some 7) rfl rfl Tryz.func30 zY2 rfl #[.agg #[.string aa,.string ab,.slice b9 af.length b4,.slice b5 ap.length b6]] rfl zY0 ?_;(with_reducible refine (impl_MailOk.calls k aa ab _ _ af _ _ ap false _ ?side1 ?side2 ?side3 ?side4 ?side5 A2.out).mono ?_);(case side1=>exact zC (Kd.z0 d6.out HB.out));(case side2=>exact fe.out);(case side3=>exact zC (Kd.z0 eP.out HB.out));(case side4=>exact eQ.out);(case side5=>exact zg);rintro e mC ⟨rfl,hb⟩;refine ⟨_,rfl,?_⟩;replace aI:=zA (zq1 (zK aI.out) hb);replace HB:=zA (zq0 zB hb);clear hb))
  go_ret
  exact ⟨zT,zB⟩
 subst c3
 rw [if_pos rfl] at H
 replace H:=Option.bind_eq_some_iff.mp H
 obtain ⟨bR,ci,H⟩:=H
 try dsimp only at H
 have A4:=zA ci
 clear ci
 obtain ⟨c5,H⟩:=zp H
 have c5b0:=eq_true c5
 have c5b1:decide (5+bR.size≤9223372036854775807)=true:=decide_eq_true c5
 try have c5b2:(9223372036854775807 < 5+bR.size)=False:=eq_false (Nat.not_lt.2 c5)
 obtain ⟨c6,H⟩:=zp H
 have c6b0:=eq_true c6
 have c6b1:decide ((bz8++bR).size+2≤9223372036854775807)=true:=decide_eq_true c6
 try have c6b2:(9223372036854775807 < (bz8++bR).size+2)=False:=eq_false (Nat.not_lt.2 c6)
 try have c6b3:=c6
 try simp only [ByteArray.size_append',sz1,sz2,sz3,sz4,sz5,sz6,sz7,sz8] at c6b3
 try have c6b4:=eq_true c6b3
 try have c6b5:=eq_false (Nat.not_lt.2 c6b3)
 have H':=zA H
 clear H
 go_enter Tryz.func23,Tryz.ntmps23
 go_wp2_with (first|((with_reducible refine zq5 (N:=1) rfl ?_);refine zE (N:=1) (cs:=#[.string aa,.string ab,.slice b9 af.length b4,.slice b5 ap.length b6]) (t:=28) ?_;intro b3 hg w7 hbox hb;have aI:=zA hbox;have gt:=zA (zS hg:w.heap.size≤b3);have gu:=zA (zS hg:w.heap.size≤b3);replace HB:=zA (zq0 zB hb);clear hb hbox hg;obtain ⟨qt,qu,qv,qw⟩:=zc4 aI.out;obtain ⟨qx,qy,qz,qA⟩:=zf4 aI.out)|((with_reducible refine zq2 (f:=30) rfl ?_);refine zq4 (some 7) rfl rfl Tryz.func30 zY2 rfl #[.agg #[.string aa,.string ab,.slice b9 af.length b4,.slice b5 ap.length b6]] rfl zY0 ?_;(with_reducible refine (impl_MailOk.calls k aa ab _ _ af _ _ ap true _ ?side1 ?side2 ?side3 ?side4 ?side5 A2.out).mono ?_);(case side1=>exact zC (Kd.z0 d6.out HB.out));(case side2=>exact fe.out);(case side3=>exact zC (Kd.z0 eP.out HB.out));(case side4=>exact eQ.out);(case side5=>exact zg);rintro e w9 ⟨rfl,hb⟩;refine ⟨_,rfl,?_⟩;replace aI:=zA (zq1 (zK aI.out) hb);replace HB:=zA (zq0 zB hb);clear hb;obtain ⟨ug,uh,ui,uj⟩:=zc4 aI.out;obtain ⟨uk,ul,um,un⟩:=zf4 aI.out)|((with_reducible refine zq2 (f:=24) rfl ?_);refine zq4 (some 11) rfl rfl Tryz.func24 zY2 rfl #[.agg #[.string aa,.string ab]] rfl zY0 ?_;(with_reducible refine (impl_Addr_text.calls aa ab bR _ A4.out).mono ?_);rintro e gv ⟨rfl,hb⟩;refine ⟨_,rfl,?_⟩;replace aI:=zA (zq1 (zK aI.out) hb);replace HB:=zA (zq0 zB hb);clear hb;obtain ⟨lD,lE,lF,lG⟩:=zc4 aI.out;obtain ⟨lH,lI,lJ,lK⟩:=zf4 aI.out))
 go_loopg [3,17] k (fun kq v3 Ec w'=>∃ (ac:ByteArray) (fF:Int),v3=.string ac∧Ec=.int .i64 fF∧Aside0 (impl_MailPut.l0 kq ac af (af.length:Int) fF aa ab af ap=some r)∧Aside0 (kq≤k)∧Aside0 (w'.heap[b3]?=some (.cells #[.string aa,.string ab,(.slice b9 af.length b4),(.slice b5 ap.length b6)] 28 (0,0)))∧Aside0 (Below w.heap.size w w'))
 case atStart=>exact ⟨((bz8++bR)++bz5),(0),zY3,zY3,H',⟨Nat.le_refl _⟩,⟨zK aI.out⟩,⟨zB⟩⟩
 case round =>
  clear H'
  try clear c2
  try clear p2
  try clear c3
  try clear c5
  try clear c5b0
  try clear c5b1
  try clear c5b2
  try clear c6
  try clear c6b0
  try clear c6b1
  try clear c6b2
  try clear ug uh ui uj
  try clear lD lE lF lG
  try clear qt qu qv qw
  try clear uk ul um un
  try clear lH lI lJ lK
  try clear qx qy qz qA
  obtain ⟨ac,fF,rfl,rfl,HA,HK1,aI,HB⟩:=hrel
  cases gk with
  | zero=>exact absurd HA.out (by simp [impl_MailPut.l0])
  | succ k1 =>
   have H:=HA.out
   clear HA
   simp only [impl_MailPut.l0] at H
   by_cases bj:fF < (af.length:Int)
   rotate_left
   ·rw [if_neg bj] at H
    have c13b0:decide (fF < (af.length:Int))=false:=decide_eq_false bj
    clear bj
    obtain ⟨gi,H⟩:=zp H
    have c24b0:=eq_true gi
    have c24b1:decide (ac.size+2≤9223372036854775807)=true:=decide_eq_true gi
    try have c24b2:(9223372036854775807 < ac.size+2)=False:=eq_false (Nat.not_lt.2 gi)
    replace H:=Option.bind_eq_some_iff.mp H
    obtain ⟨dZ,n5,H⟩:=H
    try dsimp only at H
    have qB:=zA n5
    clear n5
    obtain ⟨fE,H⟩:=zp H
    have c26b0:=eq_true fE
    have c26b1:decide ((ac++bz5).size+dZ.size≤9223372036854775807)=true:=decide_eq_true fE
    try have c26b2:(9223372036854775807 < (ac++bz5).size+dZ.size)=False:=eq_false (Nat.not_lt.2 fE)
    try have c26b3:=fE
    try simp only [ByteArray.size_append',sz1,sz2,sz3,sz4,sz5,sz6,sz7,sz8] at c26b3
    try have c26b4:=eq_true c26b3
    try have c26b5:=eq_false (Nat.not_lt.2 c26b3)
    obtain rfl:=Option.some.inj H
    obtain ⟨_,_,_,_⟩:=zc4 aI.out
    obtain ⟨_,_,_,_⟩:=zf4 aI.out
    go_wp2_with (first|((with_reducible refine zq2 (f:=55) rfl ?_);refine zq4 (some 32) rfl rfl Tryz.func55 zY2 rfl #[.slice b5 ap.length b6] rfl zY0 ?_;(with_reducible refine (impl_dotted.calls _ _ ap dZ _ ?side1 ?side2 qB.out).mono ?_);(case side1=>exact zC (Kd.z0 eP.out HB.out));(case side2=>exact eQ.out);rintro e gb ⟨rfl,hb⟩;refine ⟨_,rfl,?_⟩;replace aI:=zA (zq1 (zK aI.out) hb);replace HB:=zA (zq0 zB hb);clear hb))
    go_ret
    exact ⟨zT,zB⟩
   rw [if_pos bj] at H
   have c13b0:decide (fF < (af.length:Int))=true:=decide_eq_true bj
   clear bj
   obtain ⟨bB,H⟩:=zp H
   have c14b0:decide (0≤fF)=true:=decide_eq_true bB
   clear bB
   obtain ⟨bW,H⟩:=zp H
   have c15b0:decide (fF < (af.length:Int))=true:=decide_eq_true bW
   clear bW
   replace H:=Option.bind_eq_some_iff.mp H
   obtain ⟨dN,kx,H⟩:=H
   try dsimp only at H
   have lh:=zA kx
   clear kx
   obtain ⟨e7,H⟩:=zp H
   have c17b0:=eq_true e7
   have c17b1:decide (3+dN.size≤9223372036854775807)=true:=decide_eq_true e7
   try have c17b2:(9223372036854775807 < 3+dN.size)=False:=eq_false (Nat.not_lt.2 e7)
   obtain ⟨bK,H⟩:=zp H
   have c18b0:=eq_true bK
   have c18b1:decide ((bz9++dN).size+2≤9223372036854775807)=true:=decide_eq_true bK
   try have c18b2:(9223372036854775807 < (bz9++dN).size+2)=False:=eq_false (Nat.not_lt.2 bK)
   try have c18b3:=bK
   try simp only [ByteArray.size_append',sz1,sz2,sz3,sz4,sz5,sz6,sz7,sz8] at c18b3
   try have c18b4:=eq_true c18b3
   try have c18b5:=eq_false (Nat.not_lt.2 c18b3)
   obtain ⟨cL,H⟩:=zp H
   have c19b0:=eq_true cL
   have c19b1:decide (ac.size+((bz9++dN)++bz5).size≤9223372036854775807)=true:=decide_eq_true cL
   try have c19b2:(9223372036854775807 < ac.size+((bz9++dN)++bz5).size)=False:=eq_false (Nat.not_lt.2 cL)
   try have c19b3:=cL
   try simp only [ByteArray.size_append',sz1,sz2,sz3,sz4,sz5,sz6,sz7,sz8] at c19b3
   try have c19b4:=eq_true c19b3
   try have c19b5:=eq_false (Nat.not_lt.2 c19b3)
   have H':=zA H
   clear H
   have ei:0≤(fF:Int):=of_decide_eq_true zY1
   have ej:fF < (af.length:Int):=of_decide_eq_true zY1
   obtain ⟨ip,iq,fC,f3⟩:=at_T24 d6.out fF ei ej
   cases iq
   replace fC:=(HB.out.cell (World.block_lt_of_cell? w _ fC)).trans fC
   replace f3:=(HB.out.cell (World.block_lt_of_cell? w _ f3)).trans f3
   replace ei:=eq_true ei
   replace ej:=eq_true ej
   go_wp2_with (first|((with_reducible refine zq5 (N:=5) rfl ?_);refine zE (N:=5) (cs:=#[.string bz0,.string bz0]) (t:=24) ?_;intro n6 hg mD hbox hb;have qC:=zA hbox;have MA:=zA (zS hg:w.heap.size≤n6);have MB:=zA (zS hg:w.heap.size≤n6);replace HB:=zA (zq0 zB hb);have Ed:=zA (zNlt hg (zK aI.out):b3≠n6);have Ee:=zA (zNgt hg (zK aI.out):n6≠b3);replace aI:=zA (zq1 (zK aI.out) hb);clear hb hbox hg;have sW:=Ee.out;have sX:=Ed.out;obtain ⟨_,_⟩:=zc2 qC.out;obtain ⟨_,_⟩:=zf2 qC.out)|((with_reducible refine zq2 (f:=24) rfl ?_);refine zq4 (some 23) rfl rfl Tryz.func24 zY2 rfl #[.agg #[.string ((zq6 af fF).f0),.string ((zq6 af fF).f1)]] rfl zY0 ?_;(with_reducible refine (impl_Addr_text.calls ((zq6 af fF).f0) ((zq6 af fF).f1) dN _ lh.out).mono ?_);rintro e kI ⟨rfl,hb⟩;refine ⟨_,rfl,?_⟩;replace aI:=zA (zq1 (g:=b3) (o:=.cells #[.string aa,.string ab,.slice (some ip) af.length b4,.slice b5 ap.length b6] 28 (0,0)) (zG aI.out) hb);replace qC:=zA (zq1 (g:=n6) (o:=.cells #[.string ((zq6 af fF).f0),.string ((zq6 af fF).f1)] 24 (0,0)) (zG qC.out) hb);replace HB:=zA (zq0 zB hb);clear hb))
   go_roundg k1
   case measure=>have:=HK1.out;omega
   case rel=>exact ⟨(ac++((bz9++dN)++bz5)),(wrap64 (fF+1)),zY3,zY3,H',⟨by have:=HK1.out;omega⟩,⟨zK aI.out⟩,⟨zB⟩⟩
end Go.Proofs.YtjdpdkdhfnpcgaaGreatDoor.Q
