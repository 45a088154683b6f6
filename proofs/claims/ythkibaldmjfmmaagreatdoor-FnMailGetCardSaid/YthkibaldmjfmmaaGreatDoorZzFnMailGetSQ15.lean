/- Of a text of ours what this claim needs. -/
import Derived.Test.YthkibaldmjfmmaaGreatDoorZzFnMailGetSQ0
import Derived.Test.YthkibaldmjfmmaaGreatDoorZzFnMailGetSQ7
import Derived.Test.YthkibaldmjfmmaaGreatDoorZzFnMailGetSQ8
import Derived.Test.YthkibaldmjfmmaaGreatDoorZzFnMailGetSQ9
import Derived.Test.YthkibaldmjfmmaaGreatDoorZzFnMailGetSQ14
import Derived.Test.YthkibaldmjfmmaaGreatDoorZzFnMailGetSHDot
import Derived.Test.YthkibaldmjfmmaaGreatDoorZzFnMailGetSHSplit
namespace Go.Proofs.YthkibaldmjfmmaaGreatDoor.Q
open Go.RowKit Go.Proofs.YthkibaldmjfmmaaGreatDoorW.PrintWords Go.Proofs.YthkibaldmjfmmaaGreatDoorW.PrintLast Go.Proofs.YthkibaldmjfmmaaGreatDoorW.PrintMore
attribute [local go_sem] max2_int min2_int max_two min_two max_three min_three max_four min_four
set_option linter.unusedVariables false
set_option linter.unusedSimpArgs false
def stringslite_TrimSuffix.f (a0:ByteArray) (a1:ByteArray):Option (ByteArray):=(stringslite_HasSuffix.f a0 a1).bind fun t101=>(if t101=true then (if 0≤(wrap64 ((a0.size:Int) - (a1.size:Int))) then (if (wrap64 ((a0.size:Int) - (a1.size:Int)))≤(a0.size:Int) then (some (a0.extract 0 ((wrap64 ((a0.size:Int) - (a1.size:Int))):Int).toNat)) else (none)) else (none)) else (some a0))
set_option maxHeartbeats 8000000 in
set_option maxRecDepth 100000 in
theorem stringslite_TrimSuffix.calls (a0:ByteArray) (a1:ByteArray) (r:ByteArray) (w:World) (h:stringslite_TrimSuffix.f a0 a1=some r) :
 Calls Tryz.prog 94 #[.string a0,.string a1] w fun e w'=>e=.returned (.string r)∧Drawn0 w w':=by
 have H:((stringslite_HasSuffix.f a0 a1).bind fun t101=>(if t101=true then (if 0≤(wrap64 ((a0.size:Int) - (a1.size:Int))) then (if (wrap64 ((a0.size:Int) - (a1.size:Int)))≤(a0.size:Int) then (some (a0.extract 0 ((wrap64 ((a0.size:Int) - (a1.size:Int))):Int).toNat)) else (none)) else (none)) else (some a0)))=some r:=h
 clear h
 replace H:=Option.bind_eq_some_iff.mp H
 obtain ⟨t101,A30,H⟩:=H
 replace H:(if t101=true then (if 0≤(wrap64 ((a0.size:Int) - (a1.size:Int))) then (if (wrap64 ((a0.size:Int) - (a1.size:Int)))≤(a0.size:Int) then (some (a0.extract 0 ((wrap64 ((a0.size:Int) - (a1.size:Int))):Int).toNat)) else (none)) else (none)) else (some a0))=some r:=H
 have A3:=Aside0.mk A30
 clear A30
 by_cases c4:t101=true
 ·subst c4
  have H1:(if 0≤(wrap64 ((a0.size:Int) - (a1.size:Int))) then (if (wrap64 ((a0.size:Int) - (a1.size:Int)))≤(a0.size:Int) then (some (a0.extract 0 ((wrap64 ((a0.size:Int) - (a1.size:Int))):Int).toNat)) else (none)) else (none))=some r:=by rw [if_pos rfl] at H;exact H
  clear H
  have H:=H1
  clear H1
  obtain ⟨ji5,hji5⟩:∃ j_:Int,(wrap64 ((a0.size:Int) - (a1.size:Int)))=j_:=⟨_,rfl⟩
  replace H:(if 0≤(ji5) then (if (ji5)≤(a0.size:Int) then (some (a0.extract 0 ((ji5):Int).toNat)) else (none)) else (none))=some r:=by first|(rw [hji5] at H;exact H)|(simp only [hji5] at H ⊢;exact H)
  (try rw [hji5] at A3)
  have hji5w:(IntKind.i64.wrap ((a0.size:Int) - (a1.size:Int)))=ji5:=(i64_w _).trans hji5
  by_cases c6:0≤(ji5)
  ·rw [if_pos c6] at H
   have c6b0:=eq_true c6
   have c6b1:decide (0≤(ji5))=true:=decide_eq_true c6
   clear c6
   by_cases c7:(ji5)≤(a0.size:Int)
   ·rw [if_pos c7] at H
    have c7b0:=eq_true c7
    have c7b1:decide ((ji5)≤(a0.size:Int))=true:=decide_eq_true c7
    clear c7
    obtain rfl:=Option.some.inj H
    go_enter Tryz.func94,Tryz.ntmps94
    go_wp2_with (first|((with_reducible refine zq14 (f:=115) rfl ?_);refine zq20 (some 7) rfl rfl Tryz.func115 (by kernel_rfl) rfl #[.string a0,.string a1] rfl (by (try simp only [List.map_toArray,List.map_cons,List.map_nil]);first|done|rfl|(simp only [List.length_drop,List.length_take];rfl)) ?_;(with_reducible refine (stringslite_HasSuffix.calls a0 a1 true _ A3.out).mono ?_);rintro e w' ⟨rfl,⟨nd,rfl⟩⟩;refine ⟨_,rfl,?_⟩))
    go_ret
    exact ⟨by first|rfl|(simp;done)|(simp only [← hji5]<;>(first|rfl|simp))|(simp [*];done),by repeat (first|exact Drawn0.refl _|apply Drawn0.step)⟩
   ·rw [if_neg c7] at H
    exact absurd H (by simp)
  ·rw [if_neg c6] at H
   exact absurd H (by simp)
 ·replace c4:=Bool.eq_false_iff.mpr c4
  subst c4
  have H1:(some a0)=some r:=by rw [if_neg (show ¬ (false=true) by decide)] at H;exact H
  clear H
  have H:=H1
  clear H1
  obtain rfl:=Option.some.inj H
  go_enter Tryz.func94,Tryz.ntmps94
  go_wp2_with (first|((with_reducible refine zq14 (f:=115) rfl ?_);refine zq20 (some 7) rfl rfl Tryz.func115 (by kernel_rfl) rfl #[.string a0,.string a1] rfl (by (try simp only [List.map_toArray,List.map_cons,List.map_nil]);first|done|rfl|(simp only [List.length_drop,List.length_take];rfl)) ?_;(with_reducible refine (stringslite_HasSuffix.calls a0 a1 false _ A3.out).mono ?_);rintro e w' ⟨rfl,⟨nd,rfl⟩⟩;refine ⟨_,rfl,?_⟩))
  go_ret
  exact ⟨by first|rfl|(simp;done)|(simp [*];done),by repeat (first|exact Drawn0.refl _|apply Drawn0.step)⟩
def strings_TrimSuffix.f (a0:ByteArray) (a1:ByteArray):Option (ByteArray):=(stringslite_TrimSuffix.f a0 a1).bind fun t102=>(some t102)
set_option maxHeartbeats 8000000 in
set_option maxRecDepth 100000 in
theorem strings_TrimSuffix.calls (a0:ByteArray) (a1:ByteArray) (r:ByteArray) (w:World) (h:strings_TrimSuffix.f a0 a1=some r) :
 Calls Tryz.prog 71 #[.string a0,.string a1] w fun e w'=>e=.returned (.string r)∧Drawn0 w w':=by
 have H:((stringslite_TrimSuffix.f a0 a1).bind fun t102=>(some t102))=some r:=h
 clear h
 replace H:=Option.bind_eq_some_iff.mp H
 obtain ⟨t102,A30,H⟩:=H
 replace H:(some t102)=some r:=H
 have A3:=Aside0.mk A30
 clear A30
 obtain rfl:=Option.some.inj H
 go_enter Tryz.func71,Tryz.ntmps71
 go_wp2_with (first|((with_reducible refine zq14 (f:=94) rfl ?_);refine zq20 (some 7) rfl rfl Tryz.func94 (by kernel_rfl) rfl #[.string a0,.string a1] rfl (by (try simp only [List.map_toArray,List.map_cons,List.map_nil]);first|done|rfl|(simp only [List.length_drop,List.length_take];rfl)) ?_;(with_reducible refine (stringslite_TrimSuffix.calls a0 a1 t102 _ A3.out).mono ?_);rintro e w' ⟨rfl,⟨nd,rfl⟩⟩;refine ⟨_,rfl,?_⟩))
 go_ret
 exact ⟨by first|rfl|(simp;done)|(simp [*];done),by repeat (first|exact Drawn0.refl _|apply Drawn0.step)⟩
def impl_AddrGet.f (k:Nat) (a0:ByteArray):Option (ByteArray × ByteArray × Bool):=(strings_CutPrefix.f a0 (⟨#[60]⟩:ByteArray)).bind fun bt104=>((strings_TrimSuffix.f bt104.1 (⟨#[62]⟩:ByteArray)).bind fun t106=>((strings_Cut.f t106 (⟨#[64]⟩:ByteArray)).bind fun bt107=>(if bt104.2=true then ((impl_Addr_sender.f k bt107.1 bt107.2.1).bind fun t111=>(if t111=true then ((impl_Addr_text.f bt107.1 bt107.2.1).bind fun t112=>(if t112.toList=a0.toList then (some (bt107.1,bt107.2.1,true)) else (some ((⟨#[]⟩:ByteArray),(⟨#[]⟩:ByteArray),false)))) else (some ((⟨#[]⟩:ByteArray),(⟨#[]⟩:ByteArray),false)))) else (some ((⟨#[]⟩:ByteArray),(⟨#[]⟩:ByteArray),false)))))
set_option maxHeartbeats 8000000 in
set_option maxRecDepth 100000 in
theorem impl_AddrGet.calls (k:Nat) (a0:ByteArray) (r1:ByteArray) (r2:ByteArray) (r3:Bool) (w:World) (hG:GOK w) (h:impl_AddrGet.f k a0=some (r1,r2,r3)) :
 Calls Tryz.prog 33 #[.string a0] w fun e w'=>e=.returned (.tuple #[.agg #[.string r1,.string r2],.bool r3])∧Below w.heap.size w w':=by
 have hu24:=Tryz.underlying24
 have HG:=Aside0.mk hG
 clear hG
 have HB:=Aside0.mk (Below.refl w.heap.size w)
 have H:((strings_CutPrefix.f a0 bz1).bind fun bt104=>((strings_TrimSuffix.f bt104.1 bz5).bind fun t106=>((strings_Cut.f t106 bz2).bind fun bt107=>(if bt104.2=true then ((impl_Addr_sender.f k bt107.1 bt107.2.1).bind fun t111=>(if t111=true then ((impl_Addr_text.f bt107.1 bt107.2.1).bind fun t112=>(if t112.toList=a0.toList then (some (bt107.1,bt107.2.1,true)) else (some (bz0,bz0,false)))) else (some (bz0,bz0,false)))) else (some (bz0,bz0,false))))))=some (r1,r2,r3):=h
 clear h
 replace H:=Option.bind_eq_some_iff.mp H
 obtain ⟨⟨t104,t105⟩,A20,H⟩:=H
 replace H:((strings_TrimSuffix.f t104 bz5).bind fun t106=>((strings_Cut.f t106 bz2).bind fun bt107=>(if t105=true then ((impl_Addr_sender.f k bt107.1 bt107.2.1).bind fun t111=>(if t111=true then ((impl_Addr_text.f bt107.1 bt107.2.1).bind fun t112=>(if t112.toList=a0.toList then (some (bt107.1,bt107.2.1,true)) else (some (bz0,bz0,false)))) else (some (bz0,bz0,false)))) else (some (bz0,bz0,false)))))=some (r1,r2,r3):=H
 have A2:=Aside0.mk A20
 clear A20
 replace H:=Option.bind_eq_some_iff.mp H
 obtain ⟨t106,A30,H⟩:=H
 replace H:((strings_Cut.f t106 bz2).bind fun bt107=>(if t105=true then ((impl_Addr_sender.f k bt107.1 bt107.2.1).bind fun t111=>(if t111=true then ((impl_Addr_text.f bt107.1 bt107.2.1).bind fun t112=>(if t112.toList=a0.toList then (some (bt107.1,bt107.2.1,true)) else (some (bz0,bz0,false)))) else (some (bz0,bz0,false)))) else (some (bz0,bz0,false))))=some (r1,r2,r3):=H
 have A3:=Aside0.mk A30
 clear A30
 replace H:=Option.bind_eq_some_iff.mp H
 obtain ⟨⟨t107,t108,t109⟩,A40,H⟩:=H
 replace H:(if t105=true then ((impl_Addr_sender.f k t107 t108).bind fun t111=>(if t111=true then ((impl_Addr_text.f t107 t108).bind fun t112=>(if t112.toList=a0.toList then (some (t107,t108,true)) else (some (bz0,bz0,false)))) else (some (bz0,bz0,false)))) else (some (bz0,bz0,false)))=some (r1,r2,r3):=H
 have A4:=Aside0.mk A40
 clear A40
 by_cases c5:t105=true
 ·subst c5
  have H1:((impl_Addr_sender.f k t107 t108).bind fun t111=>(if t111=true then ((impl_Addr_text.f t107 t108).bind fun t112=>(if t112.toList=a0.toList then (some (t107,t108,true)) else (some (bz0,bz0,false)))) else (some (bz0,bz0,false))))=some (r1,r2,r3):=by rw [if_pos rfl] at H;exact H
  clear H
  have H:=H1
  clear H1
  replace H:=Option.bind_eq_some_iff.mp H
  obtain ⟨t111,A60,H⟩:=H
  replace H:(if t111=true then ((impl_Addr_text.f t107 t108).bind fun t112=>(if t112.toList=a0.toList then (some (t107,t108,true)) else (some (bz0,bz0,false)))) else (some (bz0,bz0,false)))=some (r1,r2,r3):=H
  have A6:=Aside0.mk A60
  clear A60
  by_cases c7:t111=true
  ·subst c7
   have H1:((impl_Addr_text.f t107 t108).bind fun t112=>(if t112.toList=a0.toList then (some (t107,t108,true)) else (some (bz0,bz0,false))))=some (r1,r2,r3):=by rw [if_pos rfl] at H;exact H
   clear H
   have H:=H1
   clear H1
   replace H:=Option.bind_eq_some_iff.mp H
   obtain ⟨t112,A80,H⟩:=H
   replace H:(if t112.toList=a0.toList then (some (t107,t108,true)) else (some (bz0,bz0,false)))=some (r1,r2,r3):=H
   have A8:=Aside0.mk A80
   clear A80
   by_cases c9:t112.toList=a0.toList
   ·rw [if_pos c9] at H
    have c9b0:(t112.toList==a0.toList)=true:=beq_iff_eq.mpr c9
    have c9b1:(t112.toList != a0.toList)=false:=bne_eq_false_iff_eq.mpr c9
    clear c9
    simp only [Option.some.injEq,Prod.mk.injEq] at H
    obtain ⟨rfl,rfl,rfl⟩:=H
    go_enter Tryz.func33,Tryz.ntmps33
    go_wp2_with (first|((with_reducible refine zq21 (N:=2) rfl ?_);refine zq22 ?hg (N:=2) ?hd (cs:=#[.string bz0,.string bz0]) (t:=24) ?hr ?_;(case hd=>rfl);(case hg=>rfl);(case hr=>first|(go_simp;done)|(go_simp;rfl));intro gb103 hg w10 hbox hb;have n0_:=Aside0.mk (zq9 (by repeat (first|(with_reducible first|exact HB.out|apply zq1|apply zq0|apply zq2)|exact HB.out)) hb);have n1_:=Aside0.mk (hbox);have n2_:=Aside0.mk ((by rw [hg];exact (zq10 (by repeat (first|(with_reducible first|exact HB.out|apply zq1|apply zq0|apply zq2)|exact HB.out))):w.heap.size≤gb103));have n3_:=Aside0.mk ((by rw [hg];exact (zq10 (by repeat (first|(with_reducible first|exact HB.out|apply zq1|apply zq0|apply zq2)|exact HB.out))):w.heap.size≤gb103));clear HB;have HB:=n0_;have BK103:=n1_;have GW103:=n2_;have GE103:=n3_;clear n0_ n1_ n2_ n3_;clear hb hbox hg)|((with_reducible refine zq14 (f:=70) rfl ?_);refine zq20 (some 12) rfl rfl Tryz.func70 (by kernel_rfl) rfl #[.string a0,.string bz1] rfl (by (try simp only [List.map_toArray,List.map_cons,List.map_nil]);first|done|rfl|(simp only [List.length_drop,List.length_take];rfl)) ?_;(with_reducible refine (strings_CutPrefix.calls a0 bz1 t104 true _ A2.out).mono ?_);rintro e w' ⟨rfl,⟨nd,rfl⟩⟩;refine ⟨_,rfl,?_⟩;(try (rw [drewN_self w10];generalize hq_:World.drewN w10 _=w10;have n0_:Aside0 (w10.heap[gb103]?=some (.cells #[.string bz0,.string bz0] 24 (0,0))):=⟨by rw [← hq_];exact (by (with_reducible repeat (first|refine zq4 ?_ _|refine zq7 ?_|refine zq3 ?_ _));exact BK103.out)⟩;have n1_:Aside0 (Below w.heap.size w w10):=⟨by rw [← hq_];exact (by repeat (first|(with_reducible first|exact HB.out|apply zq1|apply zq0|apply zq2|refine zq5 ?_ GE103.out)|exact HB.out))⟩;clear BK103 HB hq_;have BK103:=n0_;have HB:=n1_;clear n0_ n1_)))|((with_reducible refine zq14 (f:=71) rfl ?_);refine zq20 (some 17) rfl rfl Tryz.func71 (by kernel_rfl) rfl #[.string t104,.string bz5] rfl (by (try simp only [List.map_toArray,List.map_cons,List.map_nil]);first|done|rfl|(simp only [List.length_drop,List.length_take];rfl)) ?_;(with_reducible refine (strings_TrimSuffix.calls t104 bz5 t106 _ A3.out).mono ?_);rintro e w' ⟨rfl,⟨nd,rfl⟩⟩;refine ⟨_,rfl,?_⟩;(try (rw [drewN_self w10];generalize hq_:World.drewN w10 _=w10;have n0_:Aside0 (w10.heap[gb103]?=some (.cells #[.string bz0,.string bz0] 24 (0,0))):=⟨by rw [← hq_];exact (by (with_reducible repeat (first|refine zq4 ?_ _|refine zq7 ?_|refine zq3 ?_ _));exact BK103.out)⟩;have n1_:Aside0 (Below w.heap.size w w10):=⟨by rw [← hq_];exact (by repeat (first|(with_reducible first|exact HB.out|apply zq1|apply zq0|apply zq2|refine zq5 ?_ GE103.out)|exact HB.out))⟩;clear BK103 HB hq_;have BK103:=n0_;have HB:=n1_;clear n0_ n1_)))|((with_reducible refine zq14 (f:=31) rfl ?_);refine zq20 (some 18) rfl rfl Tryz.func31 (by kernel_rfl) rfl #[.string t106,.string bz2] rfl (by (try simp only [List.map_toArray,List.map_cons,List.map_nil]);first|done|rfl|(simp only [List.length_drop,List.length_take];rfl)) ?_;(with_reducible refine (strings_Cut.calls t106 bz2 t107 t108 t109 _ ?side1 A4.out).mono ?_);(case side1=>first|(with_reducible exact HG.out)|((with_reducible repeat (first|exact HG.out|apply GOK.drewN|apply GOK.drew));done)|exact GOK.below HG.out (by repeat (first|(with_reducible first|exact HB.out|apply zq1|apply zq0|apply zq2|refine zq5 ?_ GE103.out)|exact HB.out)));rintro e w' ⟨rfl,⟨nd,rfl⟩⟩;refine ⟨_,rfl,?_⟩;(try (rw [drewN_self w10];generalize hq_:World.drewN w10 _=w10;have n0_:Aside0 (w10.heap[gb103]?=some (.cells #[.string bz0,.string bz0] 24 (0,0))):=⟨by rw [← hq_];exact (by (with_reducible repeat (first|refine zq4 ?_ _|refine zq7 ?_|refine zq3 ?_ _));exact BK103.out)⟩;have n1_:Aside0 (Below w.heap.size w w10):=⟨by rw [← hq_];exact (by repeat (first|(with_reducible first|exact HB.out|apply zq1|apply zq0|apply zq2|refine zq5 ?_ GE103.out)|exact HB.out))⟩;clear BK103 HB hq_;have BK103:=n0_;have HB:=n1_;clear n0_ n1_)))|((with_reducible refine zq21 (N:=9) rfl ?_);refine zq22 ?hg (N:=9) ?hd (cs:=#[.string bz0,.string bz0]) (t:=24) ?hr ?_;(case hd=>rfl);(case hg=>rfl);(case hr=>first|(go_simp;done)|(go_simp;rfl));intro gb110 hg w11 hbox hb;have n0_:=Aside0.mk (zq13 (g:=gb103) (o:=.cells #[.string bz0,.string bz0] 24 (0,0)) (by (with_reducible repeat (first|refine zq4 ?_ _|refine zq7 ?_|refine zq3 ?_ _));exact BK103.out) hb);have n1_:=Aside0.mk (zq9 (by repeat (first|(with_reducible first|exact HB.out|apply zq1|apply zq0|apply zq2|refine zq5 ?_ GE103.out)|exact HB.out)) hb);have n2_:=Aside0.mk (hbox);have n3_:=Aside0.mk ((by rw [hg];exact (zq10 (by repeat (first|(with_reducible first|exact HB.out|apply zq1|apply zq0|apply zq2|refine zq5 ?_ GE103.out)|exact HB.out))):w.heap.size≤gb110));have n4_:=Aside0.mk ((by rw [hg];exact (zq10 (by repeat (first|(with_reducible first|exact HB.out|apply zq1|apply zq0|apply zq2|refine zq5 ?_ GE103.out)|exact HB.out))):w.heap.size≤gb110));have n5_:=Aside0.mk ((by rw [hg];exact Nat.ne_of_lt (blk_lt (g:=gb103) (o:=.cells #[.string bz0,.string bz0] 24 (0,0)) (by (with_reducible repeat (first|refine zq4 ?_ _|refine zq7 ?_|refine zq3 ?_ _));exact BK103.out)):gb103≠gb110));have n6_:=Aside0.mk ((by rw [hg];exact Nat.ne_of_gt (blk_lt (g:=gb103) (o:=.cells #[.string bz0,.string bz0] 24 (0,0)) (by (with_reducible repeat (first|refine zq4 ?_ _|refine zq7 ?_|refine zq3 ?_ _));exact BK103.out)):gb110≠gb103));clear BK103;clear HB;have BK103:=n0_;have HB:=n1_;have BK110:=n2_;have GW110:=n3_;have GE110:=n4_;have NB103_110:=n5_;have NB110_103:=n6_;clear n0_ n1_ n2_ n3_ n4_ n5_ n6_;clear hb hbox hg;have hnb12:=NB110_103.out;have hnc12:=NB103_110.out;have hcz13_0:w11.cell? ⟨gb110,0,none⟩=some (.string bz0):=(zq8 BK110.out 0).trans rfl;have hcz13_1:w11.cell? ⟨gb110,1,none⟩=some (.string bz0):=(zq8 BK110.out 1).trans rfl;have hfz13_0:=zq6 BK110.out 0;have hfz13_1:=zq6 BK110.out 1)|(go_at_call 26;(with_reducible refine (impl_Addr_sender.calls k t107 t108 true _ ?side1 A6.out).mono ?_);(case side1=>first|(with_reducible exact HG.out)|((with_reducible repeat (first|exact HG.out|apply GOK.drewN|apply GOK.drew));done)|exact GOK.below HG.out (by repeat (first|(with_reducible first|exact HB.out|apply zq1|apply zq0|apply zq2|refine zq5 ?_ GE103.out|refine zq5 ?_ GE110.out)|exact HB.out)));rintro e w14 ⟨rfl,hb⟩;have n0_:=Aside0.mk (zq13 (g:=gb103) (o:=.cells #[.string bz0,.string bz0] 24 (0,0)) (by (with_reducible repeat (first|refine zq4 ?_ _|refine zq7 ?_|refine zq3 ?_ _));refine zq23 ?_ NB103_110.out _;(with_reducible repeat (first|refine zq4 ?_ _|refine zq7 ?_|refine zq3 ?_ _));refine zq23 ?_ NB103_110.out _;(with_reducible repeat (first|refine zq4 ?_ _|refine zq7 ?_|refine zq3 ?_ _));exact BK103.out) hb);have n1_:=Aside0.mk (zq13 (g:=gb110) (o:=.cells #[.string t107,.string t108] 24 (0,0)) (by (with_reducible repeat (first|refine zq4 ?_ _|refine zq7 ?_|refine zq3 ?_ _));refine zq17 (cs:=#[.string t107,.string bz0]) ?_ 1 _ rfl;(with_reducible repeat (first|refine zq4 ?_ _|refine zq7 ?_|refine zq3 ?_ _));refine zq17 (cs:=#[.string bz0,.string bz0]) ?_ 0 _ rfl;(with_reducible repeat (first|refine zq4 ?_ _|refine zq7 ?_|refine zq3 ?_ _));exact BK110.out) hb);have n2_:=Aside0.mk (zq9 (by repeat (first|(with_reducible first|exact HB.out|apply zq1|apply zq0|apply zq2|refine zq5 ?_ GE103.out|refine zq5 ?_ GE110.out)|exact HB.out)) hb);clear BK103;clear BK110;clear HB;have BK103:=n0_;have BK110:=n1_;have HB:=n2_;clear n0_ n1_ n2_;(try clear hb);(try clear hb2);(try clear hk);(try clear hi);have hcz15_0:w14.cell? ⟨gb110,0,none⟩=some (.string t107):=(zq8 BK110.out 0).trans rfl;have hcz15_1:w14.cell? ⟨gb110,1,none⟩=some (.string t108):=(zq8 BK110.out 1).trans rfl;have hfz15_0:=zq6 BK110.out 0;have hfz15_1:=zq6 BK110.out 1)|(go_at_call 20;(with_reducible refine (impl_Addr_text.calls t107 t108 t112 _ A8.out).mono ?_);rintro e w16 ⟨rfl,hb⟩;have n0_:=Aside0.mk (zq13 (g:=gb103) (o:=.cells #[.string bz0,.string bz0] 24 (0,0)) (by (with_reducible repeat (first|refine zq4 ?_ _|refine zq7 ?_|refine zq3 ?_ _));exact BK103.out) hb);have n1_:=Aside0.mk (zq13 (g:=gb110) (o:=.cells #[.string t107,.string t108] 24 (0,0)) (by (with_reducible repeat (first|refine zq4 ?_ _|refine zq7 ?_|refine zq3 ?_ _));exact BK110.out) hb);have n2_:=Aside0.mk (zq9 (by repeat (first|(with_reducible first|exact HB.out|apply zq1|apply zq0|apply zq2|refine zq5 ?_ GE103.out|refine zq5 ?_ GE110.out)|exact HB.out)) hb);clear BK103;clear BK110;clear HB;have BK103:=n0_;have BK110:=n1_;have HB:=n2_;clear n0_ n1_ n2_;(try clear hb);(try clear hb2);(try clear hk);(try clear hi);have hcz17_0:w16.cell? ⟨gb110,0,none⟩=some (.string t107):=(zq8 BK110.out 0).trans rfl;have hcz17_1:w16.cell? ⟨gb110,1,none⟩=some (.string t108):=(zq8 BK110.out 1).trans rfl;have hfz17_0:=zq6 BK110.out 0;have hfz17_1:=zq6 BK110.out 1;have hcz18_0:w16.cell? ⟨gb103,0,none⟩=some (.string bz0):=(zq8 BK103.out 0).trans rfl;have hcz18_1:w16.cell? ⟨gb103,1,none⟩=some (.string bz0):=(zq8 BK103.out 1).trans rfl;have hfz18_0:=zq6 BK103.out 0;have hfz18_1:=zq6 BK103.out 1))
    refine bodyPost_ret (results_ct rfl _ _ gb103 24 #[.string t107,.string t108] (0,0) _ rfl (by (with_reducible repeat (first|refine zq4 ?_ _|refine zq7 ?_|refine zq3 ?_ _));refine zq17 (cs:=#[.string t107,.string bz0]) ?_ 1 _ rfl;(with_reducible repeat (first|refine zq4 ?_ _|refine zq7 ?_|refine zq3 ?_ _));refine zq17 (cs:=#[.string bz0,.string bz0]) ?_ 0 _ rfl;(with_reducible repeat (first|refine zq4 ?_ _|refine zq7 ?_|refine zq3 ?_ _));exact BK103.out) Tryz.underlying24 rfl (by kernel_rfl)) rfl ?_
    exact ⟨by first|rfl|(simp [zq11,zq12]<;>rfl)|(simp [*,zq11,zq12]<;>rfl),by repeat (first|(with_reducible first|exact HB.out|apply zq1|apply zq0|apply zq2|refine zq5 ?_ GE103.out|refine zq5 ?_ GE110.out)|exact HB.out)⟩
   ·rw [if_neg c9] at H
    have c9b0:(t112.toList==a0.toList)=false:=beq_eq_false_iff_ne.mpr c9
    have c9b1:(t112.toList != a0.toList)=true:=bne_iff_ne.mpr c9
    simp only [Option.some.injEq,Prod.mk.injEq] at H
    obtain ⟨rfl,rfl,rfl⟩:=H
    go_enter Tryz.func33,Tryz.ntmps33
    go_wp2_with (first|((with_reducible refine zq21 (N:=2) rfl ?_);refine zq22 ?hg (N:=2) ?hd (cs:=#[.string bz0,.string bz0]) (t:=24) ?hr ?_;(case hd=>rfl);(case hg=>rfl);(case hr=>first|(go_simp;done)|(go_simp;rfl));intro gb103 hg w19 hbox hb;have n0_:=Aside0.mk (zq9 (by repeat (first|(with_reducible first|exact HB.out|apply zq1|apply zq0|apply zq2)|exact HB.out)) hb);have n1_:=Aside0.mk (hbox);have n2_:=Aside0.mk ((by rw [hg];exact (zq10 (by repeat (first|(with_reducible first|exact HB.out|apply zq1|apply zq0|apply zq2)|exact HB.out))):w.heap.size≤gb103));have n3_:=Aside0.mk ((by rw [hg];exact (zq10 (by repeat (first|(with_reducible first|exact HB.out|apply zq1|apply zq0|apply zq2)|exact HB.out))):w.heap.size≤gb103));clear HB;have HB:=n0_;have BK103:=n1_;have GW103:=n2_;have GE103:=n3_;clear n0_ n1_ n2_ n3_;clear hb hbox hg)|((with_reducible refine zq14 (f:=70) rfl ?_);refine zq20 (some 12) rfl rfl Tryz.func70 (by kernel_rfl) rfl #[.string a0,.string bz1] rfl (by (try simp only [List.map_toArray,List.map_cons,List.map_nil]);first|done|rfl|(simp only [List.length_drop,List.length_take];rfl)) ?_;(with_reducible refine (strings_CutPrefix.calls a0 bz1 t104 true _ A2.out).mono ?_);rintro e w' ⟨rfl,⟨nd,rfl⟩⟩;refine ⟨_,rfl,?_⟩;(try (rw [drewN_self w19];generalize hq_:World.drewN w19 _=w19;have n0_:Aside0 (w19.heap[gb103]?=some (.cells #[.string bz0,.string bz0] 24 (0,0))):=⟨by rw [← hq_];exact (by (with_reducible repeat (first|refine zq4 ?_ _|refine zq7 ?_|refine zq3 ?_ _));exact BK103.out)⟩;have n1_:Aside0 (Below w.heap.size w w19):=⟨by rw [← hq_];exact (by repeat (first|(with_reducible first|exact HB.out|apply zq1|apply zq0|apply zq2|refine zq5 ?_ GE103.out)|exact HB.out))⟩;clear BK103 HB hq_;have BK103:=n0_;have HB:=n1_;clear n0_ n1_)))|((with_reducible refine zq14 (f:=71) rfl ?_);refine zq20 (some 17) rfl rfl Tryz.func71 (by kernel_rfl) rfl #[.string t104,.string bz5] rfl (by (try simp only [List.map_toArray,List.map_cons,List.map_nil]);first|done|rfl|(simp only [List.length_drop,List.length_take];rfl)) ?_;(with_reducible refine (strings_TrimSuffix.calls t104 bz5 t106 _ A3.out).mono ?_);rintro e w' ⟨rfl,⟨nd,rfl⟩⟩;refine ⟨_,rfl,?_⟩;(try (rw [drewN_self w19];generalize hq_:World.drewN w19 _=w19;have n0_:Aside0 (w19.heap[gb103]?=some (.cells #[.string bz0,.string bz0] 24 (0,0))):=⟨by rw [← hq_];exact (by (with_reducible repeat (first|refine zq4 ?_ _|refine zq7 ?_|refine zq3 ?_ _));exact BK103.out)⟩;have n1_:Aside0 (Below w.heap.size w w19):=⟨by rw [← hq_];exact (by repeat (first|(with_reducible first|exact HB.out|apply zq1|apply zq0|apply zq2|refine zq5 ?_ GE103.out)|exact HB.out))⟩;clear BK103 HB hq_;have BK103:=n0_;have HB:=n1_;clear n0_ n1_)))|((with_reducible refine zq14 (f:=31) rfl ?_);refine zq20 (some 18) rfl rfl Tryz.func31 (by kernel_rfl) rfl #[.string t106,.string bz2] rfl (by (try simp only [List.map_toArray,List.map_cons,List.map_nil]);first|done|rfl|(simp only [List.length_drop,List.length_take];rfl)) ?_;(with_reducible refine (strings_Cut.calls t106 bz2 t107 t108 t109 _ ?side1 A4.out).mono ?_);(case side1=>first|(with_reducible exact HG.out)|((with_reducible repeat (first|exact HG.out|apply GOK.drewN|apply GOK.drew));done)|exact GOK.below HG.out (by repeat (first|(with_reducible first|exact HB.out|apply zq1|apply zq0|apply zq2|refine zq5 ?_ GE103.out)|exact HB.out)));rintro e w' ⟨rfl,⟨nd,rfl⟩⟩;refine ⟨_,rfl,?_⟩;(try (rw [drewN_self w19];generalize hq_:World.drewN w19 _=w19;have n0_:Aside0 (w19.heap[gb103]?=some (.cells #[.string bz0,.string bz0] 24 (0,0))):=⟨by rw [← hq_];exact (by (with_reducible repeat (first|refine zq4 ?_ _|refine zq7 ?_|refine zq3 ?_ _));exact BK103.out)⟩;have n1_:Aside0 (Below w.heap.size w w19):=⟨by rw [← hq_];exact (by repeat (first|(with_reducible first|exact HB.out|apply zq1|apply zq0|apply zq2|refine zq5 ?_ GE103.out)|exact HB.out))⟩;clear BK103 HB hq_;have BK103:=n0_;have HB:=n1_;clear n0_ n1_)))|((with_reducible refine zq21 (N:=9) rfl ?_);refine zq22 ?hg (N:=9) ?hd (cs:=#[.string bz0,.string bz0]) (t:=24) ?hr ?_;(case hd=>rfl);(case hg=>rfl);(case hr=>first|(go_simp;done)|(go_simp;rfl));intro gb110 hg w20 hbox hb;have n0_:=Aside0.mk (zq13 (g:=gb103) (o:=.cells #[.string bz0,.string bz0] 24 (0,0)) (by (with_reducible repeat (first|refine zq4 ?_ _|refine zq7 ?_|refine zq3 ?_ _));exact BK103.out) hb);have n1_:=Aside0.mk (zq9 (by repeat (first|(with_reducible first|exact HB.out|apply zq1|apply zq0|apply zq2|refine zq5 ?_ GE103.out)|exact HB.out)) hb);have n2_:=Aside0.mk (hbox);have n3_:=Aside0.mk ((by rw [hg];exact (zq10 (by repeat (first|(with_reducible first|exact HB.out|apply zq1|apply zq0|apply zq2|refine zq5 ?_ GE103.out)|exact HB.out))):w.heap.size≤gb110));have n4_:=Aside0.mk ((by rw [hg];exact (zq10 (by repeat (first|(with_reducible first|exact HB.out|apply zq1|apply zq0|apply zq2|refine zq5 ?_ GE103.out)|exact HB.out))):w.heap.size≤gb110));have n5_:=Aside0.mk ((by rw [hg];exact Nat.ne_of_lt (blk_lt (g:=gb103) (o:=.cells #[.string bz0,.string bz0] 24 (0,0)) (by (with_reducible repeat (first|refine zq4 ?_ _|refine zq7 ?_|refine zq3 ?_ _));exact BK103.out)):gb103≠gb110));have n6_:=Aside0.mk ((by rw [hg];exact Nat.ne_of_gt (blk_lt (g:=gb103) (o:=.cells #[.string bz0,.string bz0] 24 (0,0)) (by (with_reducible repeat (first|refine zq4 ?_ _|refine zq7 ?_|refine zq3 ?_ _));exact BK103.out)):gb110≠gb103));clear BK103;clear HB;have BK103:=n0_;have HB:=n1_;have BK110:=n2_;have GW110:=n3_;have GE110:=n4_;have NB103_110:=n5_;have NB110_103:=n6_;clear n0_ n1_ n2_ n3_ n4_ n5_ n6_;clear hb hbox hg;have hnb21:=NB110_103.out;have hnc21:=NB103_110.out;have hcz22_0:w20.cell? ⟨gb110,0,none⟩=some (.string bz0):=(zq8 BK110.out 0).trans rfl;have hcz22_1:w20.cell? ⟨gb110,1,none⟩=some (.string bz0):=(zq8 BK110.out 1).trans rfl;have hfz22_0:=zq6 BK110.out 0;have hfz22_1:=zq6 BK110.out 1)|(go_at_call 26;(with_reducible refine (impl_Addr_sender.calls k t107 t108 true _ ?side1 A6.out).mono ?_);(case side1=>first|(with_reducible exact HG.out)|((with_reducible repeat (first|exact HG.out|apply GOK.drewN|apply GOK.drew));done)|exact GOK.below HG.out (by repeat (first|(with_reducible first|exact HB.out|apply zq1|apply zq0|apply zq2|refine zq5 ?_ GE103.out|refine zq5 ?_ GE110.out)|exact HB.out)));rintro e w23 ⟨rfl,hb⟩;have n0_:=Aside0.mk (zq13 (g:=gb103) (o:=.cells #[.string bz0,.string bz0] 24 (0,0)) (by (with_reducible repeat (first|refine zq4 ?_ _|refine zq7 ?_|refine zq3 ?_ _));refine zq23 ?_ NB103_110.out _;(with_reducible repeat (first|refine zq4 ?_ _|refine zq7 ?_|refine zq3 ?_ _));refine zq23 ?_ NB103_110.out _;(with_reducible repeat (first|refine zq4 ?_ _|refine zq7 ?_|refine zq3 ?_ _));exact BK103.out) hb);have n1_:=Aside0.mk (zq13 (g:=gb110) (o:=.cells #[.string t107,.string t108] 24 (0,0)) (by (with_reducible repeat (first|refine zq4 ?_ _|refine zq7 ?_|refine zq3 ?_ _));refine zq17 (cs:=#[.string t107,.string bz0]) ?_ 1 _ rfl;(with_reducible repeat (first|refine zq4 ?_ _|refine zq7 ?_|refine zq3 ?_ _));refine zq17 (cs:=#[.string bz0,.string bz0]) ?_ 0 _ rfl;(with_reducible repeat (first|refine zq4 ?_ _|refine zq7 ?_|refine zq3 ?_ _));exact BK110.out) hb);have n2_:=Aside0.mk (zq9 (by repeat (first|(with_reducible first|exact HB.out|apply zq1|apply zq0|apply zq2|refine zq5 ?_ GE103.out|refine zq5 ?_ GE110.out)|exact HB.out)) hb);clear BK103;clear BK110;clear HB;have BK103:=n0_;have BK110:=n1_;have HB:=n2_;clear n0_ n1_ n2_;(try clear hb);(try clear hb2);(try clear hk);(try clear hi);have hcz24_0:w23.cell? ⟨gb110,0,none⟩=some (.string t107):=(zq8 BK110.out 0).trans rfl;have hcz24_1:w23.cell? ⟨gb110,1,none⟩=some (.string t108):=(zq8 BK110.out 1).trans rfl;have hfz24_0:=zq6 BK110.out 0;have hfz24_1:=zq6 BK110.out 1)|(go_at_call 20;(with_reducible refine (impl_Addr_text.calls t107 t108 t112 _ A8.out).mono ?_);rintro e w25 ⟨rfl,hb⟩;have n0_:=Aside0.mk (zq13 (g:=gb103) (o:=.cells #[.string bz0,.string bz0] 24 (0,0)) (by (with_reducible repeat (first|refine zq4 ?_ _|refine zq7 ?_|refine zq3 ?_ _));exact BK103.out) hb);have n1_:=Aside0.mk (zq13 (g:=gb110) (o:=.cells #[.string t107,.string t108] 24 (0,0)) (by (with_reducible repeat (first|refine zq4 ?_ _|refine zq7 ?_|refine zq3 ?_ _));exact BK110.out) hb);have n2_:=Aside0.mk (zq9 (by repeat (first|(with_reducible first|exact HB.out|apply zq1|apply zq0|apply zq2|refine zq5 ?_ GE103.out|refine zq5 ?_ GE110.out)|exact HB.out)) hb);clear BK103;clear BK110;clear HB;have BK103:=n0_;have BK110:=n1_;have HB:=n2_;clear n0_ n1_ n2_;(try clear hb);(try clear hb2);(try clear hk);(try clear hi);have hcz26_0:w25.cell? ⟨gb103,0,none⟩=some (.string bz0):=(zq8 BK103.out 0).trans rfl;have hcz26_1:w25.cell? ⟨gb103,1,none⟩=some (.string bz0):=(zq8 BK103.out 1).trans rfl;have hfz26_0:=zq6 BK103.out 0;have hfz26_1:=zq6 BK103.out 1))
    refine bodyPost_ret (results_ct rfl _ _ gb103 24 #[.string bz0,.string bz0] (0,0) _ rfl (by (with_reducible repeat (first|refine zq4 ?_ _|refine zq7 ?_|refine zq3 ?_ _));refine zq17 (cs:=#[.string bz0,.string bz0]) ?_ 1 _ rfl;(with_reducible repeat (first|refine zq4 ?_ _|refine zq7 ?_|refine zq3 ?_ _));refine zq17 (cs:=#[.string bz0,.string bz0]) ?_ 0 _ rfl;(with_reducible repeat (first|refine zq4 ?_ _|refine zq7 ?_|refine zq3 ?_ _));exact BK103.out) Tryz.underlying24 rfl (by kernel_rfl)) rfl ?_
    exact ⟨by first|rfl|(simp [zq11,zq12]<;>rfl)|(simp [*,zq11,zq12]<;>rfl),by repeat (first|(with_reducible first|exact HB.out|apply zq1|apply zq0|apply zq2|refine zq5 ?_ GE103.out|refine zq5 ?_ GE110.out)|exact HB.out)⟩
  ·replace c7:=Bool.eq_false_iff.mpr c7
   subst c7
   have H1:(some (bz0,bz0,false))=some (r1,r2,r3):=by rw [if_neg (show ¬ (false=true) by decide)] at H;exact H
   clear H
   have H:=H1
   clear H1
   simp only [Option.some.injEq,Prod.mk.injEq] at H
   obtain ⟨rfl,rfl,rfl⟩:=H
   go_enter Tryz.func33,Tryz.ntmps33
   go_wp2_with (first|((with_reducible refine zq21 (N:=2) rfl ?_);refine zq22 ?hg (N:=2) ?hd (cs:=#[.string bz0,.string bz0]) (t:=24) ?hr ?_;(case hd=>rfl);(case hg=>rfl);(case hr=>first|(go_simp;done)|(go_simp;rfl));intro gb103 hg w27 hbox hb;have n0_:=Aside0.mk (zq9 (by repeat (first|(with_reducible first|exact HB.out|apply zq1|apply zq0|apply zq2)|exact HB.out)) hb);have n1_:=Aside0.mk (hbox);have n2_:=Aside0.mk ((by rw [hg];exact (zq10 (by repeat (first|(with_reducible first|exact HB.out|apply zq1|apply zq0|apply zq2)|exact HB.out))):w.heap.size≤gb103));have n3_:=Aside0.mk ((by rw [hg];exact (zq10 (by repeat (first|(with_reducible first|exact HB.out|apply zq1|apply zq0|apply zq2)|exact HB.out))):w.heap.size≤gb103));clear HB;have HB:=n0_;have BK103:=n1_;have GW103:=n2_;have GE103:=n3_;clear n0_ n1_ n2_ n3_;clear hb hbox hg)|((with_reducible refine zq14 (f:=70) rfl ?_);refine zq20 (some 12) rfl rfl Tryz.func70 (by kernel_rfl) rfl #[.string a0,.string bz1] rfl (by (try simp only [List.map_toArray,List.map_cons,List.map_nil]);first|done|rfl|(simp only [List.length_drop,List.length_take];rfl)) ?_;(with_reducible refine (strings_CutPrefix.calls a0 bz1 t104 true _ A2.out).mono ?_);rintro e w' ⟨rfl,⟨nd,rfl⟩⟩;refine ⟨_,rfl,?_⟩;(try (rw [drewN_self w27];generalize hq_:World.drewN w27 _=w27;have n0_:Aside0 (w27.heap[gb103]?=some (.cells #[.string bz0,.string bz0] 24 (0,0))):=⟨by rw [← hq_];exact (by (with_reducible repeat (first|refine zq4 ?_ _|refine zq7 ?_|refine zq3 ?_ _));exact BK103.out)⟩;have n1_:Aside0 (Below w.heap.size w w27):=⟨by rw [← hq_];exact (by repeat (first|(with_reducible first|exact HB.out|apply zq1|apply zq0|apply zq2|refine zq5 ?_ GE103.out)|exact HB.out))⟩;clear BK103 HB hq_;have BK103:=n0_;have HB:=n1_;clear n0_ n1_)))|((with_reducible refine zq14 (f:=71) rfl ?_);refine zq20 (some 17) rfl rfl Tryz.func71 (by kernel_rfl) rfl #[.string t104,.string bz5] rfl (by (try simp only [List.map_toArray,List.map_cons,List.map_nil]);first|done|rfl|(simp only [List.length_drop,List.length_take];rfl)) ?_;(with_reducible refine (strings_TrimSuffix.calls t104 bz5 t106 _ A3.out).mono ?_);rintro e w' ⟨rfl,⟨nd,rfl⟩⟩;refine ⟨_,rfl,?_⟩;(try (rw [drewN_self w27];generalize hq_:World.drewN w27 _=w27;have n0_:Aside0 (w27.heap[gb103]?=some (.cells #[.string bz0,.string bz0] 24 (0,0))):=⟨by rw [← hq_];exact (by (with_reducible repeat (first|refine zq4 ?_ _|refine zq7 ?_|refine zq3 ?_ _));exact BK103.out)⟩;have n1_:Aside0 (Below w.heap.size w w27):=⟨by rw [← hq_];exact (by repeat (first|(with_reducible first|exact HB.out|apply zq1|apply zq0|apply zq2|refine zq5 ?_ GE103.out)|exact HB.out))⟩;clear BK103 HB hq_;have BK103:=n0_;have HB:=n1_;clear n0_ n1_)))|((with_reducible refine zq14 (f:=31) rfl ?_);refine zq20 (some 18) rfl rfl Tryz.func31 (by kernel_rfl) rfl #[.string t106,.string bz2] rfl (by (try simp only [List.map_toArray,List.map_cons,List.map_nil]);first|done|rfl|(simp only [List.length_drop,List.length_take];rfl)) ?_;(with_reducible refine (strings_Cut.calls t106 bz2 t107 t108 t109 _ ?side1 A4.out).mono ?_);(case side1=>first|(with_reducible exact HG.out)|((with_reducible repeat (first|exact HG.out|apply GOK.drewN|apply GOK.drew));done)|exact GOK.below HG.out (by repeat (first|(with_reducible first|exact HB.out|apply zq1|apply zq0|apply zq2|refine zq5 ?_ GE103.out)|exact HB.out)));rintro e w' ⟨rfl,⟨nd,rfl⟩⟩;refine ⟨_,rfl,?_⟩;(try (rw [drewN_self w27];generalize hq_:World.drewN w27 _=w27;have n0_:Aside0 (w27.heap[gb103]?=some (.cells #[.string bz0,.string bz0] 24 (0,0))):=⟨by rw [← hq_];exact (by (with_reducible repeat (first|refine zq4 ?_ _|refine zq7 ?_|refine zq3 ?_ _));exact BK103.out)⟩;have n1_:Aside0 (Below w.heap.size w w27):=⟨by rw [← hq_];exact (by repeat (first|(with_reducible first|exact HB.out|apply zq1|apply zq0|apply zq2|refine zq5 ?_ GE103.out)|exact HB.out))⟩;clear BK103 HB hq_;have BK103:=n0_;have HB:=n1_;clear n0_ n1_)))|((with_reducible refine zq21 (N:=9) rfl ?_);refine zq22 ?hg (N:=9) ?hd (cs:=#[.string bz0,.string bz0]) (t:=24) ?hr ?_;(case hd=>rfl);(case hg=>rfl);(case hr=>first|(go_simp;done)|(go_simp;rfl));intro gb110 hg w28 hbox hb;have n0_:=Aside0.mk (zq13 (g:=gb103) (o:=.cells #[.string bz0,.string bz0] 24 (0,0)) (by (with_reducible repeat (first|refine zq4 ?_ _|refine zq7 ?_|refine zq3 ?_ _));exact BK103.out) hb);have n1_:=Aside0.mk (zq9 (by repeat (first|(with_reducible first|exact HB.out|apply zq1|apply zq0|apply zq2|refine zq5 ?_ GE103.out)|exact HB.out)) hb);have n2_:=Aside0.mk (hbox);have n3_:=Aside0.mk ((by rw [hg];exact (zq10 (by repeat (first|(with_reducible first|exact HB.out|apply zq1|apply zq0|apply zq2|refine zq5 ?_ GE103.out)|exact HB.out))):w.heap.size≤gb110));have n4_:=Aside0.mk ((by rw [hg];exact (zq10 (by repeat (first|(with_reducible first|exact HB.out|apply zq1|apply zq0|apply zq2|refine zq5 ?_ GE103.out)|exact HB.out))):w.heap.size≤gb110));have n5_:=Aside0.mk ((by rw [hg];exact Nat.ne_of_lt (blk_lt (g:=gb103) (o:=.cells #[.string bz0,.string bz0] 24 (0,0)) (by (with_reducible repeat (first|refine zq4 ?_ _|refine zq7 ?_|refine zq3 ?_ _));exact BK103.out)):gb103≠gb110));have n6_:=Aside0.mk ((by rw [hg];exact Nat.ne_of_gt (blk_lt (g:=gb103) (o:=.cells #[.string bz0,.string bz0] 24 (0,0)) (by (with_reducible repeat (first|refine zq4 ?_ _|refine zq7 ?_|refine zq3 ?_ _));exact BK103.out)):gb110≠gb103));clear BK103;clear HB;have BK103:=n0_;have HB:=n1_;have BK110:=n2_;have GW110:=n3_;have GE110:=n4_;have NB103_110:=n5_;have NB110_103:=n6_;clear n0_ n1_ n2_ n3_ n4_ n5_ n6_;clear hb hbox hg;have hnb29:=NB110_103.out;have hnc29:=NB103_110.out;have hcz30_0:w28.cell? ⟨gb110,0,none⟩=some (.string bz0):=(zq8 BK110.out 0).trans rfl;have hcz30_1:w28.cell? ⟨gb110,1,none⟩=some (.string bz0):=(zq8 BK110.out 1).trans rfl;have hfz30_0:=zq6 BK110.out 0;have hfz30_1:=zq6 BK110.out 1)|(go_at_call 26;(with_reducible refine (impl_Addr_sender.calls k t107 t108 false _ ?side1 A6.out).mono ?_);(case side1=>first|(with_reducible exact HG.out)|((with_reducible repeat (first|exact HG.out|apply GOK.drewN|apply GOK.drew));done)|exact GOK.below HG.out (by repeat (first|(with_reducible first|exact HB.out|apply zq1|apply zq0|apply zq2|refine zq5 ?_ GE103.out|refine zq5 ?_ GE110.out)|exact HB.out)));rintro e w31 ⟨rfl,hb⟩;have n0_:=Aside0.mk (zq13 (g:=gb103) (o:=.cells #[.string bz0,.string bz0] 24 (0,0)) (by (with_reducible repeat (first|refine zq4 ?_ _|refine zq7 ?_|refine zq3 ?_ _));refine zq23 ?_ NB103_110.out _;(with_reducible repeat (first|refine zq4 ?_ _|refine zq7 ?_|refine zq3 ?_ _));refine zq23 ?_ NB103_110.out _;(with_reducible repeat (first|refine zq4 ?_ _|refine zq7 ?_|refine zq3 ?_ _));exact BK103.out) hb);have n1_:=Aside0.mk (zq13 (g:=gb110) (o:=.cells #[.string t107,.string t108] 24 (0,0)) (by (with_reducible repeat (first|refine zq4 ?_ _|refine zq7 ?_|refine zq3 ?_ _));refine zq17 (cs:=#[.string t107,.string bz0]) ?_ 1 _ rfl;(with_reducible repeat (first|refine zq4 ?_ _|refine zq7 ?_|refine zq3 ?_ _));refine zq17 (cs:=#[.string bz0,.string bz0]) ?_ 0 _ rfl;(with_reducible repeat (first|refine zq4 ?_ _|refine zq7 ?_|refine zq3 ?_ _));exact BK110.out) hb);have n2_:=Aside0.mk (zq9 (by repeat (first|(with_reducible first|exact HB.out|apply zq1|apply zq0|apply zq2|refine zq5 ?_ GE103.out|refine zq5 ?_ GE110.out)|exact HB.out)) hb);clear BK103;clear BK110;clear HB;have BK103:=n0_;have BK110:=n1_;have HB:=n2_;clear n0_ n1_ n2_;(try clear hb);(try clear hb2);(try clear hk);(try clear hi);have hcz32_0:w31.cell? ⟨gb103,0,none⟩=some (.string bz0):=(zq8 BK103.out 0).trans rfl;have hcz32_1:w31.cell? ⟨gb103,1,none⟩=some (.string bz0):=(zq8 BK103.out 1).trans rfl;have hfz32_0:=zq6 BK103.out 0;have hfz32_1:=zq6 BK103.out 1))
   refine bodyPost_ret (results_ct rfl _ _ gb103 24 #[.string bz0,.string bz0] (0,0) _ rfl (by (with_reducible repeat (first|refine zq4 ?_ _|refine zq7 ?_|refine zq3 ?_ _));refine zq17 (cs:=#[.string bz0,.string bz0]) ?_ 1 _ rfl;(with_reducible repeat (first|refine zq4 ?_ _|refine zq7 ?_|refine zq3 ?_ _));refine zq17 (cs:=#[.string bz0,.string bz0]) ?_ 0 _ rfl;(with_reducible repeat (first|refine zq4 ?_ _|refine zq7 ?_|refine zq3 ?_ _));exact BK103.out) Tryz.underlying24 rfl (by kernel_rfl)) rfl ?_
   exact ⟨by first|rfl|(simp [zq11,zq12]<;>rfl)|(simp [*,zq11,zq12]<;>rfl),by repeat (first|(with_reducible first|exact HB.out|apply zq1|apply zq0|apply zq2|refine zq5 ?_ GE103.out|refine zq5 ?_ GE110.out)|exact HB.out)⟩
 ·replace c5:=Bool.eq_false_iff.mpr c5
  subst c5
  have H1:(some (bz0,bz0,false))=some (r1,r2,r3):=by rw [if_neg (show ¬ (false=true) by decide)] at H;exact H
  clear H
  have H:=H1
  clear H1
  simp only [Option.some.injEq,Prod.mk.injEq] at H
  obtain ⟨rfl,rfl,rfl⟩:=H
  go_enter Tryz.func33,Tryz.ntmps33
  go_wp2_with (first|((with_reducible refine zq21 (N:=2) rfl ?_);refine zq22 ?hg (N:=2) ?hd (cs:=#[.string bz0,.string bz0]) (t:=24) ?hr ?_;(case hd=>rfl);(case hg=>rfl);(case hr=>first|(go_simp;done)|(go_simp;rfl));intro gb103 hg w33 hbox hb;have n0_:=Aside0.mk (zq9 (by repeat (first|(with_reducible first|exact HB.out|apply zq1|apply zq0|apply zq2)|exact HB.out)) hb);have n1_:=Aside0.mk (hbox);have n2_:=Aside0.mk ((by rw [hg];exact (zq10 (by repeat (first|(with_reducible first|exact HB.out|apply zq1|apply zq0|apply zq2)|exact HB.out))):w.heap.size≤gb103));have n3_:=Aside0.mk ((by rw [hg];exact (zq10 (by repeat (first|(with_reducible first|exact HB.out|apply zq1|apply zq0|apply zq2)|exact HB.out))):w.heap.size≤gb103));clear HB;have HB:=n0_;have BK103:=n1_;have GW103:=n2_;have GE103:=n3_;clear n0_ n1_ n2_ n3_;clear hb hbox hg)|((with_reducible refine zq14 (f:=70) rfl ?_);refine zq20 (some 12) rfl rfl Tryz.func70 (by kernel_rfl) rfl #[.string a0,.string bz1] rfl (by (try simp only [List.map_toArray,List.map_cons,List.map_nil]);first|done|rfl|(simp only [List.length_drop,List.length_take];rfl)) ?_;(with_reducible refine (strings_CutPrefix.calls a0 bz1 t104 false _ A2.out).mono ?_);rintro e w' ⟨rfl,⟨nd,rfl⟩⟩;refine ⟨_,rfl,?_⟩;(try (rw [drewN_self w33];generalize hq_:World.drewN w33 _=w33;have n0_:Aside0 (w33.heap[gb103]?=some (.cells #[.string bz0,.string bz0] 24 (0,0))):=⟨by rw [← hq_];exact (by (with_reducible repeat (first|refine zq4 ?_ _|refine zq7 ?_|refine zq3 ?_ _));exact BK103.out)⟩;have n1_:Aside0 (Below w.heap.size w w33):=⟨by rw [← hq_];exact (by repeat (first|(with_reducible first|exact HB.out|apply zq1|apply zq0|apply zq2|refine zq5 ?_ GE103.out)|exact HB.out))⟩;clear BK103 HB hq_;have BK103:=n0_;have HB:=n1_;clear n0_ n1_)))|((with_reducible refine zq14 (f:=71) rfl ?_);refine zq20 (some 17) rfl rfl Tryz.func71 (by kernel_rfl) rfl #[.string t104,.string bz5] rfl (by (try simp only [List.map_toArray,List.map_cons,List.map_nil]);first|done|rfl|(simp only [List.length_drop,List.length_take];rfl)) ?_;(with_reducible refine (strings_TrimSuffix.calls t104 bz5 t106 _ A3.out).mono ?_);rintro e w' ⟨rfl,⟨nd,rfl⟩⟩;refine ⟨_,rfl,?_⟩;(try (rw [drewN_self w33];generalize hq_:World.drewN w33 _=w33;have n0_:Aside0 (w33.heap[gb103]?=some (.cells #[.string bz0,.string bz0] 24 (0,0))):=⟨by rw [← hq_];exact (by (with_reducible repeat (first|refine zq4 ?_ _|refine zq7 ?_|refine zq3 ?_ _));exact BK103.out)⟩;have n1_:Aside0 (Below w.heap.size w w33):=⟨by rw [← hq_];exact (by repeat (first|(with_reducible first|exact HB.out|apply zq1|apply zq0|apply zq2|refine zq5 ?_ GE103.out)|exact HB.out))⟩;clear BK103 HB hq_;have BK103:=n0_;have HB:=n1_;clear n0_ n1_)))|((with_reducible refine zq14 (f:=31) rfl ?_);refine zq20 (some 18) rfl rfl Tryz.func31 (by kernel_rfl) rfl #[.string t106,.string bz2] rfl (by (try simp only [List.map_toArray,List.map_cons,List.map_nil]);first|done|rfl|(simp only [List.length_drop,List.length_take];rfl)) ?_;(with_reducible refine (strings_Cut.calls t106 bz2 t107 t108 t109 _ ?side1 A4.out).mono ?_);(case side1=>first|(with_reducible exact HG.out)|((with_reducible repeat (first|exact HG.out|apply GOK.drewN|apply GOK.drew));done)|exact GOK.below HG.out (by repeat (first|(with_reducible first|exact HB.out|apply zq1|apply zq0|apply zq2|refine zq5 ?_ GE103.out)|exact HB.out)));rintro e w' ⟨rfl,⟨nd,rfl⟩⟩;refine ⟨_,rfl,?_⟩;(try (rw [drewN_self w33];generalize hq_:World.drewN w33 _=w33;have n0_:Aside0 (w33.heap[gb103]?=some (.cells #[.string bz0,.string bz0] 24 (0,0))):=⟨by rw [← hq_];exact (by (with_reducible repeat (first|refine zq4 ?_ _|refine zq7 ?_|refine zq3 ?_ _));exact BK103.out)⟩;have n1_:Aside0 (Below w.heap.size w w33):=⟨by rw [← hq_];exact (by repeat (first|(with_reducible first|exact HB.out|apply zq1|apply zq0|apply zq2|refine zq5 ?_ GE103.out)|exact HB.out))⟩;clear BK103 HB hq_;have BK103:=n0_;have HB:=n1_;clear n0_ n1_)))|((with_reducible refine zq21 (N:=9) rfl ?_);refine zq22 ?hg (N:=9) ?hd (cs:=#[.string bz0,.string bz0]) (t:=24) ?hr ?_;(case hd=>rfl);(case hg=>rfl);(case hr=>first|(go_simp;done)|(go_simp;rfl));intro gb110 hg w34 hbox hb;have n0_:=Aside0.mk (zq13 (g:=gb103) (o:=.cells #[.string bz0,.string bz0] 24 (0,0)) (by (with_reducible repeat (first|refine zq4 ?_ _|refine zq7 ?_|refine zq3 ?_ _));exact BK103.out) hb);have n1_:=Aside0.mk (zq9 (by repeat (first|(with_reducible first|exact HB.out|apply zq1|apply zq0|apply zq2|refine zq5 ?_ GE103.out)|exact HB.out)) hb);have n2_:=Aside0.mk (hbox);have n3_:=Aside0.mk ((by rw [hg];exact (zq10 (by repeat (first|(with_reducible first|exact HB.out|apply zq1|apply zq0|apply zq2|refine zq5 ?_ GE103.out)|exact HB.out))):w.heap.size≤gb110));have n4_:=Aside0.mk ((by rw [hg];exact (zq10 (by repeat (first|(with_reducible first|exact HB.out|apply zq1|apply zq0|apply zq2|refine zq5 ?_ GE103.out)|exact HB.out))):w.heap.size≤gb110));have n5_:=Aside0.mk ((by rw [hg];exact Nat.ne_of_lt (blk_lt (g:=gb103) (o:=.cells #[.string bz0,.string bz0] 24 (0,0)) (by (with_reducible repeat (first|refine zq4 ?_ _|refine zq7 ?_|refine zq3 ?_ _));exact BK103.out)):gb103≠gb110));have n6_:=Aside0.mk ((by rw [hg];exact Nat.ne_of_gt (blk_lt (g:=gb103) (o:=.cells #[.string bz0,.string bz0] 24 (0,0)) (by (with_reducible repeat (first|refine zq4 ?_ _|refine zq7 ?_|refine zq3 ?_ _));exact BK103.out)):gb110≠gb103));clear BK103;clear HB;have BK103:=n0_;have HB:=n1_;have BK110:=n2_;have GW110:=n3_;have GE110:=n4_;have NB103_110:=n5_;have NB110_103:=n6_;clear n0_ n1_ n2_ n3_ n4_ n5_ n6_;clear hb hbox hg;have hnb35:=NB110_103.out;have hnc35:=NB103_110.out;have hcz36_0:w34.cell? ⟨gb110,0,none⟩=some (.string bz0):=(zq8 BK110.out 0).trans rfl;have hcz36_1:w34.cell? ⟨gb110,1,none⟩=some (.string bz0):=(zq8 BK110.out 1).trans rfl;have hfz36_0:=zq6 BK110.out 0;have hfz36_1:=zq6 BK110.out 1;have hcz37_0:w34.cell? ⟨gb103,0,none⟩=some (.string bz0):=(zq8 BK103.out 0).trans rfl;have hcz37_1:w34.cell? ⟨gb103,1,none⟩=some (.string bz0):=(zq8 BK103.out 1).trans rfl;have hfz37_0:=zq6 BK103.out 0;have hfz37_1:=zq6 BK103.out 1))
  refine bodyPost_ret (results_ct rfl _ _ gb103 24 #[.string bz0,.string bz0] (0,0) _ rfl (by (with_reducible repeat (first|refine zq4 ?_ _|refine zq7 ?_|refine zq3 ?_ _));refine zq17 (cs:=#[.string bz0,.string bz0]) ?_ 1 _ rfl;(with_reducible repeat (first|refine zq4 ?_ _|refine zq7 ?_|refine zq3 ?_ _));refine zq17 (cs:=#[.string bz0,.string bz0]) ?_ 0 _ rfl;(with_reducible repeat (first|refine zq4 ?_ _|refine zq7 ?_|refine zq3 ?_ _));refine zq23 ?_ NB103_110.out _;(with_reducible repeat (first|refine zq4 ?_ _|refine zq7 ?_|refine zq3 ?_ _));refine zq23 ?_ NB103_110.out _;(with_reducible repeat (first|refine zq4 ?_ _|refine zq7 ?_|refine zq3 ?_ _));exact BK103.out) Tryz.underlying24 rfl (by kernel_rfl)) rfl ?_
  exact ⟨by first|rfl|(simp [zq11,zq12]<;>rfl)|(simp [*,zq11,zq12]<;>rfl),by repeat (first|(with_reducible first|exact HB.out|apply zq1|apply zq0|apply zq2|refine zq5 ?_ GE103.out|refine zq5 ?_ GE110.out)|exact HB.out)⟩
def impl_split.l0:Nat→ByteArray→List ByteArray→Option (List ByteArray × ByteArray)
 | 0,_,_=>none
 | k+1,x0,x4=>(strings_Cut.f x0 (⟨#[13,10]⟩:ByteArray)).bind fun bt101=>(if bt101.2.2=true then (if x4.length < 8796093022208 then (impl_split.l0 k bt101.2.1 (x4++[bt101.1])) else (none)) else (some (x4,x0)))
def impl_split.f (k:Nat) (a0:ByteArray):Option (List ByteArray × ByteArray):=impl_split.l0 k a0 ([]:List ByteArray)
set_option maxHeartbeats 8000000 in
set_option maxRecDepth 100000 in
theorem impl_split.calls (k:Nat) (a0:ByteArray) (r1:List ByteArray) (r2:ByteArray) (w:World) (hG:GOK w) (h:impl_split.f k a0=some (r1,r2)) :
 Calls Tryz.prog 95 #[.string a0] w fun e w'=>∃ v0_:Value,e=.returned (.tuple #[v0_,.string r2])∧Kd.R Kd.string 9 w' w.heap.size (fun _=>True) v0_ r1∧Below w.heap.size w w':=by
 have HG:=Aside0.mk hG
 clear hG
 have HB:=Aside0.mk (Below.refl w.heap.size w)
 have H:(impl_split.l0 k a0 ([]:List ByteArray))=some (r1,r2):=h
 clear h
 have H':=Aside0.mk H
 clear H
 go_enter Tryz.func95,Tryz.ntmps95
 go_wp2
 go_loopg [0,4] k (fun kq v0 v4 w'=>∃ (x0_1:ByteArray) (x4_1:List ByteArray),v0=.string x0_1∧Aside0 (impl_split.l0 kq x0_1 x4_1=some (r1,r2))∧Aside0 (kq≤k)∧Aside0 (Kd.R Kd.string 9 w' w.heap.size (fun _=>True) v4 x4_1)∧Aside0 (Below w.heap.size w w'))
 case atStart=>exact ⟨(a0),(([]:List ByteArray)),(by first|rfl|(simp;done)|(simp [*];done)),H',⟨Nat.le_refl _⟩,⟨by first|exact Kd.R_nil _ _ _ _ _|exact Kd.N_nil _ _ _ _ _|exact Kd.V_nil _ _ _ _ _|exact Kd.Q_nil _ _ _ _ _|exact Kd.S_nil _ _ _ _ _⟩,⟨by repeat (first|(with_reducible first|exact HB.out|apply zq1|apply zq0|apply zq2)|exact HB.out)⟩⟩
 case round =>
  clear H'
  obtain ⟨x0_1,x4_1,rfl,HA,HK1,HO_4,HB⟩:=hrel
  cases gk with
  | zero=>exact absurd HA.out (by simp [impl_split.l0])
  | succ k1 =>
   have H:=HA.out
   clear HA
   simp only [impl_split.l0] at H
   replace H:=Option.bind_eq_some_iff.mp H
   obtain ⟨⟨t101,t102,t103⟩,A20,H⟩:=H
   replace H:(if t103=true then (if x4_1.length < 8796093022208 then (impl_split.l0 k1 t102 (x4_1++[t101])) else (none)) else (some (x4_1,x0_1)))=some (r1,r2):=H
   have A2:=Aside0.mk A20
   clear A20
   by_cases c3:t103=true
   ·subst c3
    have H1:(if x4_1.length < 8796093022208 then (impl_split.l0 k1 t102 (x4_1++[t101])) else (none))=some (r1,r2):=by rw [if_pos rfl] at H;exact H
    clear H
    have H:=H1
    clear H1
    by_cases c4:x4_1.length < 8796093022208
    ·rw [if_pos c4] at H
     have LMc4:=Aside0.mk c4
     clear c4
     obtain ⟨y104,hy104⟩:∃ y_:List ByteArray,y_=(x4_1++[t101]):=⟨_,rfl⟩
     replace H:(impl_split.l0 k1 t102 y104)=some (r1,r2):=by first|(rw [hy104];with_reducible exact H)|(have H2_:=(Option.bind_some _ _).symm.trans H;rw [hy104];with_reducible exact H2_)|(have H2_:=(Option.bind_some _ _).symm.trans H;with_reducible exact H2_)|with_reducible exact H|(rw [hy104];exact H)|exact H
     have Ny104:=Aside0.mk hy104
     clear hy104
     have H':=Aside0.mk H
     clear H
     go_wp2_with (first|((with_reducible refine zq14 (f:=31) rfl ?_);refine zq20 (some 10) rfl rfl Tryz.func31 (by kernel_rfl) rfl #[.string x0_1,.string bz3] rfl (by (try simp only [List.map_toArray,List.map_cons,List.map_nil]);first|done|rfl|(simp only [List.length_drop,List.length_take];rfl)) ?_;(with_reducible refine (strings_Cut.calls x0_1 bz3 t101 t102 true _ ?side1 A2.out).mono ?_);(case side1=>first|(with_reducible exact HG.out)|((with_reducible repeat (first|exact HG.out|apply GOK.drewN|apply GOK.drew));done)|exact GOK.below HG.out (by repeat (first|(with_reducible first|exact HB.out|apply zq1|apply zq0|apply zq2)|exact HB.out)));rintro e w' ⟨rfl,⟨nd,rfl⟩⟩;refine ⟨_,rfl,?_⟩)|((with_reducible refine gate_builtin (b:=.append) (xs:=#[.tmp 18,.tmp 20]) rfl ?_);at_builtin;refine Kd.R_append Kd.string (w0:=w) w.heap.size rfl (.tmp 18) (.tmp 20) 26 9 (.string ⟨#[]⟩) 16 rfl Tryz.underlying26 info9 rfl (by decide) (by omega) u4 x4_1 t101 [.string t101] (fun _=>True) (fun _=>False) rfl rfl ?aP (fun _ hk=>hk.elim) ?aF ?aO ?aB ?aS ?aL ?_;(case aP=>exact rfl);(case aB=>exact (by repeat (first|(with_reducible first|exact HB.out|apply zq1|apply zq0|apply zq2)|exact HB.out)));(case aF=>exact (fun _ _=>trivial));(case aO=>exact (by (with_reducible repeat (first|apply Kd.R_alloc|apply Kd.R_drewN|apply Kd.R_drew));exact HO_4.out));(case aS=>exact (zq10 (by repeat (first|(with_reducible first|exact HB.out|apply zq1|apply zq0|apply zq2)|exact HB.out))));(case aL=>have:=LMc4.out;omega);intro v105 w5 ho hb hg hat;rw [← Ny104.out] at ho;have n0_:=Aside0.mk (hb);have n1_:=Aside0.mk (ho);clear HB;clear HO_4;have HB:=n0_;have HO106:=n1_;clear n0_ n1_;clear ho hb hg hat))
     go_roundg k1
     case measure=>have:=HK1.out;omega
     case rel=>exact ⟨(t102),(y104),(by first|rfl|(simp;done)|(simp [*];done)),H',⟨by have:=HK1.out;omega⟩,⟨by (with_reducible repeat (first|apply Kd.R_alloc|apply Kd.R_drewN|apply Kd.R_drew));exact HO106.out⟩,⟨by repeat (first|(with_reducible first|exact HB.out|apply zq1|apply zq0|apply zq2)|exact HB.out)⟩⟩
    ·rw [if_neg c4] at H
     exact absurd H (by simp)
   ·replace c3:=Bool.eq_false_iff.mpr c3
    subst c3
    have H1:(some (x4_1,x0_1))=some (r1,r2):=by rw [if_neg (show ¬ (false=true) by decide)] at H;exact H
    clear H
    have H:=H1
    clear H1
    simp only [Option.some.injEq,Prod.mk.injEq] at H
    obtain ⟨rfl,rfl⟩:=H
    go_wp2_with (first|((with_reducible refine zq14 (f:=31) rfl ?_);refine zq20 (some 10) rfl rfl Tryz.func31 (by kernel_rfl) rfl #[.string x0_1,.string bz3] rfl (by (try simp only [List.map_toArray,List.map_cons,List.map_nil]);first|done|rfl|(simp only [List.length_drop,List.length_take];rfl)) ?_;(with_reducible refine (strings_Cut.calls x0_1 bz3 t101 t102 false _ ?side1 A2.out).mono ?_);(case side1=>first|(with_reducible exact HG.out)|((with_reducible repeat (first|exact HG.out|apply GOK.drewN|apply GOK.drew));done)|exact GOK.below HG.out (by repeat (first|(with_reducible first|exact HB.out|apply zq1|apply zq0|apply zq2)|exact HB.out)));rintro e w' ⟨rfl,⟨nd,rfl⟩⟩;refine ⟨_,rfl,?_⟩))
    go_ret2
    exact ⟨_,by first|rfl|(simp [zq11,zq12]<;>rfl)|(simp [*,zq11,zq12]<;>rfl),by (with_reducible repeat (first|apply Kd.R_alloc|apply Kd.R_drewN|apply Kd.R_drew));exact HO_4.out,by repeat (first|(with_reducible first|exact HB.out|apply zq1|apply zq0|apply zq2)|exact HB.out)⟩
def impl_LinesOf.f (k:Nat) (a0:ByteArray):Option (List ByteArray × ByteArray):=if (a0.size:Int) > 800 then (some (([]:List ByteArray),(⟨#[]⟩:ByteArray))) else ((impl_split.f k a0).bind fun bt107=>(some (bt107.1,bt107.2)))
set_option maxHeartbeats 8000000 in
set_option maxRecDepth 100000 in
theorem impl_LinesOf.calls (k:Nat) (a0:ByteArray) (r1:List ByteArray) (r2:ByteArray) (w:World) (hG:GOK w) (h:impl_LinesOf.f k a0=some (r1,r2)) :
 Calls Tryz.prog 72 #[.string a0] w fun e w'=>∃ v0_:Value,e=.returned (.tuple #[v0_,.string r2])∧Kd.R Kd.string 9 w' w.heap.size (fun _=>True) v0_ r1∧Below w.heap.size w w':=by
 have HG:=Aside0.mk hG
 clear hG
 have HB:=Aside0.mk (Below.refl w.heap.size w)
 have H:(if (a0.size:Int) > 800 then (some (([]:List ByteArray),bz0)) else ((impl_split.f k a0).bind fun bt107=>(some (bt107.1,bt107.2))))=some (r1,r2):=h
 clear h
 by_cases c2:(a0.size:Int) > 800
 ·rw [if_pos c2] at H
  have c2b0:decide (800 < (a0.size:Int))=true:=decide_eq_true c2
  have c2b1:decide (800 < a0.size)=true:=decide_eq_true (by omega)
  clear c2
  simp only [Option.some.injEq,Prod.mk.injEq] at H
  obtain ⟨rfl,rfl⟩:=H
  go_enter Tryz.func72,Tryz.ntmps72
  go_wp2
  go_ret2
  exact ⟨_,by first|rfl|(simp [zq11,zq12]<;>rfl)|(simp [*,zq11,zq12]<;>rfl),by first|exact Kd.R_nil _ _ _ _ _|exact Kd.N_nil _ _ _ _ _|exact Kd.V_nil _ _ _ _ _|exact Kd.Q_nil _ _ _ _ _|exact Kd.S_nil _ _ _ _ _,by repeat (first|(with_reducible first|exact HB.out|apply zq1|apply zq0|apply zq2)|exact HB.out)⟩
 ·rw [if_neg c2] at H
  have c2b0:decide (800 < (a0.size:Int))=false:=decide_eq_false c2
  have c2b1:decide (800 < a0.size)=false:=decide_eq_false (by omega)
  clear c2
  replace H:=Option.bind_eq_some_iff.mp H
  obtain ⟨⟨t107,t108⟩,A30,H⟩:=H
  replace H:(some (t107,t108))=some (r1,r2):=H
  have A3:=Aside0.mk A30
  clear A30
  simp only [Option.some.injEq,Prod.mk.injEq] at H
  obtain ⟨rfl,rfl⟩:=H
  go_enter Tryz.func72,Tryz.ntmps72
  go_wp2_with (first|((with_reducible refine zq14 (f:=95) rfl ?_);refine zq20 (some 8) rfl rfl Tryz.func95 (by kernel_rfl) rfl #[.string a0] rfl (by (try simp only [List.map_toArray,List.map_cons,List.map_nil]);first|done|rfl|(simp only [List.length_drop,List.length_take];rfl)) ?_;(with_reducible refine (impl_split.calls k a0 t107 t108 _ ?side1 A3.out).mono ?_);(case side1=>first|(with_reducible exact HG.out)|((with_reducible repeat (first|exact HG.out|apply GOK.drewN|apply GOK.drew));done)|exact GOK.below HG.out (by repeat (first|(with_reducible first|exact HB.out|apply zq1|apply zq0|apply zq2)|exact HB.out)));rintro e w4 ⟨v109,rfl,ho0,hb⟩;refine ⟨_,rfl,?_⟩;have n0_:=Aside0.mk (Kd.R_lower ho0 (zq10 (by repeat (first|(with_reducible first|exact HB.out|apply zq1|apply zq0|apply zq2)|exact HB.out))));have n1_:=Aside0.mk (zq9 (by repeat (first|(with_reducible first|exact HB.out|apply zq1|apply zq0|apply zq2)|exact HB.out)) hb);clear HB;have HO110:=n0_;have HB:=n1_;clear n0_ n1_;(try clear hb);(try clear hb2);(try clear hk);(try clear hi);(try clear ho0)))
  go_ret2
  exact ⟨_,by first|rfl|(simp [zq11,zq12]<;>rfl)|(simp [*,zq11,zq12]<;>rfl),by (with_reducible repeat (first|apply Kd.R_alloc|apply Kd.R_drewN|apply Kd.R_drew));exact HO110.out,by repeat (first|(with_reducible first|exact HB.out|apply zq1|apply zq0|apply zq2)|exact HB.out)⟩
def stringslite_TrimPrefix.f (a0:ByteArray) (a1:ByteArray):Option (ByteArray):=(stringslite_HasPrefix.f a0 a1).bind fun t101=>(if t101=true then (if 0≤(a1.size:Int) then (if (a1.size:Int)≤(a0.size:Int) then (some (a0.extract ((a1.size:Int):Int).toNat a0.size)) else (none)) else (none)) else (some a0))
set_option maxHeartbeats 8000000 in
set_option maxRecDepth 100000 in
theorem stringslite_TrimPrefix.calls (a0:ByteArray) (a1:ByteArray) (r:ByteArray) (w:World) (h:stringslite_TrimPrefix.f a0 a1=some r) :
 Calls Tryz.prog 96 #[.string a0,.string a1] w fun e w'=>e=.returned (.string r)∧Drawn0 w w':=by
 have H:((stringslite_HasPrefix.f a0 a1).bind fun t101=>(if t101=true then (if 0≤(a1.size:Int) then (if (a1.size:Int)≤(a0.size:Int) then (some (a0.extract ((a1.size:Int):Int).toNat a0.size)) else (none)) else (none)) else (some a0)))=some r:=h
 clear h
 replace H:=Option.bind_eq_some_iff.mp H
 obtain ⟨t101,A30,H⟩:=H
 replace H:(if t101=true then (if 0≤(a1.size:Int) then (if (a1.size:Int)≤(a0.size:Int) then (some (a0.extract ((a1.size:Int):Int).toNat a0.size)) else (none)) else (none)) else (some a0))=some r:=H
 have A3:=Aside0.mk A30
 clear A30
 by_cases c4:t101=true
 ·subst c4
  have H1:(if 0≤(a1.size:Int) then (if (a1.size:Int)≤(a0.size:Int) then (some (a0.extract ((a1.size:Int):Int).toNat a0.size)) else (none)) else (none))=some r:=by rw [if_pos rfl] at H;exact H
  clear H
  have H:=H1
  clear H1
  by_cases c5:0≤(a1.size:Int)
  ·rw [if_pos c5] at H
   have c5b0:=eq_true c5
   have c5b1:decide (0≤(a1.size:Int))=true:=decide_eq_true c5
   clear c5
   by_cases c6:(a1.size:Int)≤(a0.size:Int)
   ·rw [if_pos c6] at H
    have c6b0:=eq_true c6
    have c6b1:decide ((a1.size:Int)≤(a0.size:Int))=true:=decide_eq_true c6
    clear c6
    obtain rfl:=Option.some.inj H
    go_enter Tryz.func96,Tryz.ntmps96
    go_wp2_with (first|((with_reducible refine zq14 (f:=82) rfl ?_);refine zq20 (some 7) rfl rfl Tryz.func82 (by kernel_rfl) rfl #[.string a0,.string a1] rfl (by (try simp only [List.map_toArray,List.map_cons,List.map_nil]);first|done|rfl|(simp only [List.length_drop,List.length_take];rfl)) ?_;(with_reducible refine (stringslite_HasPrefix.calls a0 a1 true _ A3.out).mono ?_);rintro e w' ⟨rfl,⟨nd,rfl⟩⟩;refine ⟨_,rfl,?_⟩))
    go_ret
    exact ⟨by first|rfl|(simp;done)|(simp [*];done),by repeat (first|exact Drawn0.refl _|apply Drawn0.step)⟩
   ·rw [if_neg c6] at H
    exact absurd H (by simp)
  ·rw [if_neg c5] at H
   exact absurd H (by simp)
 ·replace c4:=Bool.eq_false_iff.mpr c4
  subst c4
  have H1:(some a0)=some r:=by rw [if_neg (show ¬ (false=true) by decide)] at H;exact H
  clear H
  have H:=H1
  clear H1
  obtain rfl:=Option.some.inj H
  go_enter Tryz.func96,Tryz.ntmps96
  go_wp2_with (first|((with_reducible refine zq14 (f:=82) rfl ?_);refine zq20 (some 7) rfl rfl Tryz.func82 (by kernel_rfl) rfl #[.string a0,.string a1] rfl (by (try simp only [List.map_toArray,List.map_cons,List.map_nil]);first|done|rfl|(simp only [List.length_drop,List.length_take];rfl)) ?_;(with_reducible refine (stringslite_HasPrefix.calls a0 a1 false _ A3.out).mono ?_);rintro e w' ⟨rfl,⟨nd,rfl⟩⟩;refine ⟨_,rfl,?_⟩))
  go_ret
  exact ⟨by first|rfl|(simp;done)|(simp [*];done),by repeat (first|exact Drawn0.refl _|apply Drawn0.step)⟩
def strings_TrimPrefix.f (a0:ByteArray) (a1:ByteArray):Option (ByteArray):=(stringslite_TrimPrefix.f a0 a1).bind fun t102=>(some t102)
set_option maxHeartbeats 8000000 in
set_option maxRecDepth 100000 in
theorem strings_TrimPrefix.calls (a0:ByteArray) (a1:ByteArray) (r:ByteArray) (w:World) (h:strings_TrimPrefix.f a0 a1=some r) :
 Calls Tryz.prog 73 #[.string a0,.string a1] w fun e w'=>e=.returned (.string r)∧Drawn0 w w':=by
 have H:((stringslite_TrimPrefix.f a0 a1).bind fun t102=>(some t102))=some r:=h
 clear h
 replace H:=Option.bind_eq_some_iff.mp H
 obtain ⟨t102,A30,H⟩:=H
 replace H:(some t102)=some r:=H
 have A3:=Aside0.mk A30
 clear A30
 obtain rfl:=Option.some.inj H
 go_enter Tryz.func73,Tryz.ntmps73
 go_wp2_with (first|((with_reducible refine zq14 (f:=96) rfl ?_);refine zq20 (some 7) rfl rfl Tryz.func96 (by kernel_rfl) rfl #[.string a0,.string a1] rfl (by (try simp only [List.map_toArray,List.map_cons,List.map_nil]);first|done|rfl|(simp only [List.length_drop,List.length_take];rfl)) ?_;(with_reducible refine (stringslite_TrimPrefix.calls a0 a1 t102 _ A3.out).mono ?_);rintro e w' ⟨rfl,⟨nd,rfl⟩⟩;refine ⟨_,rfl,?_⟩))
 go_ret
 exact ⟨by first|rfl|(simp;done)|(simp [*];done),by repeat (first|exact Drawn0.refl _|apply Drawn0.step)⟩
def impl_DotPut.f (k:Nat) (l0:List ByteArray):Option (ByteArray):=(impl_isBody.f k l0).bind fun t101=>(if t101=true then ((impl_dotted.f l0).bind fun t102=>(some t102)) else (some (⟨#[]⟩:ByteArray)))
set_option maxHeartbeats 8000000 in
set_option maxRecDepth 100000 in
theorem impl_DotPut.calls (k:Nat) (A0:Option Addr) (c0:Nat) (l0:List ByteArray) (r:ByteArray) (w:World) (hr0:Kd.C Kd.string w A0 l0.length l0) (hc0:l0.length≤c0) (h:impl_DotPut.f k l0=some r) :
 Calls Tryz.prog 74 #[.slice A0 l0.length c0] w fun e w'=>e=.returned (.string r)∧Below w.heap.size w w':=by
 have HR0:=Aside0.mk hr0
 have HC0:=Aside0.mk hc0
 clear hr0 hc0
 have HB:=Aside0.mk (Below.refl w.heap.size w)
 have H:((impl_isBody.f k l0).bind fun t101=>(if t101=true then ((impl_dotted.f l0).bind fun t102=>(some t102)) else (some bz0)))=some r:=h
 clear h
 replace H:=Option.bind_eq_some_iff.mp H
 obtain ⟨t101,A20,H⟩:=H
 replace H:(if t101=true then ((impl_dotted.f l0).bind fun t102=>(some t102)) else (some bz0))=some r:=H
 have A2:=Aside0.mk A20
 clear A20
 by_cases c3:t101=true
 ·subst c3
  have H1:((impl_dotted.f l0).bind fun t102=>(some t102))=some r:=by rw [if_pos rfl] at H;exact H
  clear H
  have H:=H1
  clear H1
  replace H:=Option.bind_eq_some_iff.mp H
  obtain ⟨t102,A40,H⟩:=H
  replace H:(some t102)=some r:=H
  have A4:=Aside0.mk A40
  clear A40
  obtain rfl:=Option.some.inj H
  go_enter Tryz.func74,Tryz.ntmps74
  go_wp2_with (first|((with_reducible refine zq14 (f:=30) rfl ?_);refine zq20 (some 4) rfl rfl Tryz.func30 (by kernel_rfl) rfl #[.slice A0 l0.length c0] rfl (by (try simp only [List.map_toArray,List.map_cons,List.map_nil]);first|done|rfl|(simp only [List.length_drop,List.length_take];rfl)) ?_;(with_reducible refine (impl_isBody.calls k _ _ l0 true _ ?side1 ?side2 A2.out).mono ?_);(case side1=>repeat (first|exact HR0.out|(with_reducible refine Kd.C_alloc ?_ _)|(with_reducible refine Kd.C_drewN ?_ _)|(with_reducible refine Kd.C_drew ?_)));(case side2=>exact HC0.out);rintro e w' ⟨rfl,⟨nd,rfl⟩⟩;refine ⟨_,rfl,?_⟩)|((with_reducible refine zq14 (f:=21) rfl ?_);refine zq20 (some 7) rfl rfl Tryz.func21 (by kernel_rfl) rfl #[.slice A0 l0.length c0] rfl (by (try simp only [List.map_toArray,List.map_cons,List.map_nil]);first|done|rfl|(simp only [List.length_drop,List.length_take];rfl)) ?_;(with_reducible refine (impl_dotted.calls _ _ l0 t102 _ ?side1 ?side2 A4.out).mono ?_);(case side1=>repeat (first|exact HR0.out|(with_reducible refine Kd.C_alloc ?_ _)|(with_reducible refine Kd.C_drewN ?_ _)|(with_reducible refine Kd.C_drew ?_)));(case side2=>exact HC0.out);rintro e w5 ⟨rfl,hb⟩;refine ⟨_,rfl,?_⟩;have n0_:=Aside0.mk (zq9 (by repeat (first|(with_reducible first|exact HB.out|apply zq1|apply zq0|apply zq2)|exact HB.out)) hb);clear HB;have HB:=n0_;clear n0_;(try clear hb);(try clear hb2);(try clear hk);(try clear hi)))
  go_ret
  exact ⟨by first|rfl|(simp [zq11,zq12]<;>rfl)|(simp [*,zq11,zq12]<;>rfl),by repeat (first|(with_reducible first|exact HB.out|apply zq1|apply zq0|apply zq2)|exact HB.out)⟩
 ·replace c3:=Bool.eq_false_iff.mpr c3
  subst c3
  have H1:(some bz0)=some r:=by rw [if_neg (show ¬ (false=true) by decide)] at H;exact H
  clear H
  have H:=H1
  clear H1
  obtain rfl:=Option.some.inj H
  go_enter Tryz.func74,Tryz.ntmps74
  go_wp2_with (first|((with_reducible refine zq14 (f:=30) rfl ?_);refine zq20 (some 4) rfl rfl Tryz.func30 (by kernel_rfl) rfl #[.slice A0 l0.length c0] rfl (by (try simp only [List.map_toArray,List.map_cons,List.map_nil]);first|done|rfl|(simp only [List.length_drop,List.length_take];rfl)) ?_;(with_reducible refine (impl_isBody.calls k _ _ l0 false _ ?side1 ?side2 A2.out).mono ?_);(case side1=>repeat (first|exact HR0.out|(with_reducible refine Kd.C_alloc ?_ _)|(with_reducible refine Kd.C_drewN ?_ _)|(with_reducible refine Kd.C_drew ?_)));(case side2=>exact HC0.out);rintro e w' ⟨rfl,⟨nd,rfl⟩⟩;refine ⟨_,rfl,?_⟩))
  go_ret
  exact ⟨by first|rfl|(simp [zq11,zq12]<;>rfl)|(simp [*,zq11,zq12]<;>rfl),by repeat (first|(with_reducible first|exact HB.out|apply zq1|apply zq0|apply zq2)|exact HB.out)⟩
end Go.Proofs.YthkibaldmjfmmaaGreatDoor.Q
