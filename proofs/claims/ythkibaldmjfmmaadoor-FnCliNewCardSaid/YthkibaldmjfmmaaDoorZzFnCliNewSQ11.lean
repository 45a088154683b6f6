/- Of a text of ours what this claim needs. -/
import Derived.Test.YthkibaldmjfmmaaDoorZzFnCliNewSQ0
import Derived.Test.YthkibaldmjfmmaaDoorZzFnCliNewSQ7
import Derived.Test.YthkibaldmjfmmaaDoorZzFnCliNewSQ9
import Derived.Test.YthkibaldmjfmmaaDoorZzFnCliNewSQ10
import Derived.Test.YthkibaldmjfmmaaDoorZzFnCliNewSHSplit
namespace Go.Proofs.YthkibaldmjfmmaaDoor.Q
open Go.RowKit Go.Proofs.YthkibaldmjfmmaaDoorW.PrintWords Go.Proofs.YthkibaldmjfmmaaDoorW.PrintLast Go.Proofs.YthkibaldmjfmmaaDoorW.PrintMore
attribute [local go_sem] max2_int min2_int max_two min_two max_three min_three max_four min_four
set_option linter.unusedVariables false
set_option linter.unusedSimpArgs false
def impl_CliOk.j0:Nat→Bool→ByteArray→ByteArray→ByteArray→List (S30)→List ByteArray→Int→Int→List Int→Option (Bool)
 | 0,_,_,_,_,_,_,_,_,_=>none
 | k+1,x19,x106000,x106001,x106002,x106003,x106004,x106005,x106006,x106007=>if x19=true then (some false) else ((impl_within.f x106006 0 (x106003.length:Int)).bind fun t109=>(if t109=true then (if x106005=3 then (if x106006 > 0 then (if (x106007.length:Int)=(x106003.length:Int) then ((slices_ContainsFunc_int_int_at76.f k x106007).bind fun t110=>(some (!t110))) else (some false)) else (some false)) else (if (x106007.length:Int)=(x106003.length:Int) then ((slices_ContainsFunc_int_int_at76.f k x106007).bind fun t111=>(some (!t111))) else (some false))) else (some false)))
def impl_CliOk.f (k:Nat) (a0_0:ByteArray) (a0_1:ByteArray) (a0_2:ByteArray) (l0_3:List (S30)) (l0_4:List ByteArray) (a0_5:Int) (a0_6:Int) (l0_7:List Int):Option (Bool):=(impl_DomainOk.f k a0_0).bind fun t106=>(if t106=true then ((impl_MailOk.f k a0_1 a0_2 l0_3 l0_4).bind fun t107=>(if t107=true then ((impl_within.f a0_5 0 7).bind fun t108=>(impl_CliOk.j0 k (!t108) a0_0 a0_1 a0_2 l0_3 l0_4 a0_5 a0_6 l0_7)) else (impl_CliOk.j0 k true a0_0 a0_1 a0_2 l0_3 l0_4 a0_5 a0_6 l0_7))) else (impl_CliOk.j0 k true a0_0 a0_1 a0_2 l0_3 l0_4 a0_5 a0_6 l0_7))
set_option maxHeartbeats 8000000 in
set_option maxRecDepth 100000 in
theorem impl_CliOk.calls (k:Nat) (a0_0:ByteArray) (a0_1:ByteArray) (a0_2:ByteArray) (A0_3:Option Addr) (c0_3:Nat) (l0_3:List (S30)) (A0_4:Option Addr) (c0_4:Nat) (l0_4:List ByteArray) (a0_5:Int) (a0_6:Int) (A0_7:Option Addr) (c0_7:Nat) (l0_7:List Int) (r:Bool) (w:World) (hr0_3:Kd.C k30 w A0_3 l0_3.length l0_3) (hc0_3:l0_3.length≤c0_3) (hr0_4:Kd.C Kd.string w A0_4 l0_4.length l0_4) (hc0_4:l0_4.length≤c0_4) (hr0_7:Kd.C (Kd.int .i64) w A0_7 l0_7.length l0_7) (hc0_7:l0_7.length≤c0_7) (hG:GOK w) (h:impl_CliOk.f k a0_0 a0_1 a0_2 l0_3 l0_4 a0_5 a0_6 l0_7=some r) :
 Calls Tryd.prog 32 #[.agg #[.string a0_0,.string a0_1,.string a0_2,.slice A0_3 l0_3.length c0_3,.slice A0_4 l0_4.length c0_4,.int .i64 a0_5,.int .i64 a0_6,.slice A0_7 l0_7.length c0_7]] w fun e w'=>e=.returned (.bool r)∧Below w.heap.size w w':=by
 have hu67:=Tryd.underlying67
 have hu33:=Tryd.underlying33
 have HR0_3:=zA hr0_3
 have HC0_3:=zA hc0_3
 clear hr0_3 hc0_3
 have HR0_4:=zA hr0_4
 have HC0_4:=zA hc0_4
 clear hr0_4 hc0_4
 have HR0_7:=zA hr0_7
 have HC0_7:=zA hc0_7
 clear hr0_7 hc0_7
 have HG:=zA hG
 clear hG
 have HB:=zA (Below.refl w.heap.size w)
 have H:((impl_DomainOk.f k a0_0).bind fun t106=>(if t106=true then ((impl_MailOk.f k a0_1 a0_2 l0_3 l0_4).bind fun t107=>(if t107=true then ((impl_within.f a0_5 0 7).bind fun t108=>(impl_CliOk.j0 k (!t108) a0_0 a0_1 a0_2 l0_3 l0_4 a0_5 a0_6 l0_7)) else (impl_CliOk.j0 k true a0_0 a0_1 a0_2 l0_3 l0_4 a0_5 a0_6 l0_7))) else (impl_CliOk.j0 k true a0_0 a0_1 a0_2 l0_3 l0_4 a0_5 a0_6 l0_7)))=some r:=h
 clear h
 have HC2:=zA H
 clear H
 go_enter Tryd.func32,Tryd.ntmps32
 go_upto_region 2 with (first|((with_reducible refine zq21 (N:=1) rfl ?_);(try (refine gate_guard (by rfl) ?_;dsimp only));refine zq23 ?hg (N:=1) ?hd (cs:=#[.string a0_0,.string a0_1,.string a0_2,.slice A0_3 l0_3.length c0_3,.slice A0_4 l0_4.length c0_4,.int .i64 a0_5,.int .i64 a0_6,.slice A0_7 l0_7.length c0_7]) (t:=67) ?hr ?_;(case hd=>rfl);(case hg=>rfl);(case hr=>first|(go_simp;done)|(go_simp;rfl));intro gb105 hg w3 hbox hb;have n0_:=zA (zq11 (by repeat (first|(with_reducible first|exact HB.out|apply zq4|apply zq0|apply zq3)|exact HB.out)) hb);have n1_:=zA (hbox);have n2_:=zA ((by rw [hg];exact (zq14 (by repeat (first|(with_reducible first|exact HB.out|apply zq4|apply zq0|apply zq3)|exact HB.out))):w.heap.size≤gb105));have n3_:=zA ((by rw [hg];exact (zq14 (by repeat (first|(with_reducible first|exact HB.out|apply zq4|apply zq0|apply zq3)|exact HB.out))):w.heap.size≤gb105));clear HB;have HB:=n0_;have BK105:=n1_;have GW105:=n2_;have GE105:=n3_;clear n0_ n1_ n2_ n3_;clear hb hbox hg))
 (try simp only [Act.put,zL0,zL1,zL2])
 go_cut [19] (fun v19 wc=>∃ (kq:Nat) (x19_1:Bool),v19=.bool x19_1∧Aside0 (impl_CliOk.j0 kq x19_1 a0_0 a0_1 a0_2 l0_3 l0_4 a0_5 a0_6 l0_7=some r)∧Aside0 (kq≤k)∧Aside0 (wc.heap[gb105]?=some (.cells #[.string a0_0,.string a0_1,.string a0_2,(.slice A0_3 l0_3.length c0_3),(.slice A0_4 l0_4.length c0_4),.int .i64 a0_5,.int .i64 a0_6,(.slice A0_7 l0_7.length c0_7)] 67 (0,0)))∧Aside0 (Below w.heap.size w wc))
 case first =>
  have H:=HC2.out
  clear HC2
  replace H:=Option.bind_eq_some_iff.mp H
  obtain ⟨t106,A40,H⟩:=H
  replace H:(if t106=true then ((impl_MailOk.f k a0_1 a0_2 l0_3 l0_4).bind fun t107=>(if t107=true then ((impl_within.f a0_5 0 7).bind fun t108=>(impl_CliOk.j0 k (!t108) a0_0 a0_1 a0_2 l0_3 l0_4 a0_5 a0_6 l0_7)) else (impl_CliOk.j0 k true a0_0 a0_1 a0_2 l0_3 l0_4 a0_5 a0_6 l0_7))) else (impl_CliOk.j0 k true a0_0 a0_1 a0_2 l0_3 l0_4 a0_5 a0_6 l0_7))=some r:=H
  have A4:=zA A40
  clear A40
  by_cases c5:t106=true
  ·subst c5
   have H1:((impl_MailOk.f k a0_1 a0_2 l0_3 l0_4).bind fun t107=>(if t107=true then ((impl_within.f a0_5 0 7).bind fun t108=>(impl_CliOk.j0 k (!t108) a0_0 a0_1 a0_2 l0_3 l0_4 a0_5 a0_6 l0_7)) else (impl_CliOk.j0 k true a0_0 a0_1 a0_2 l0_3 l0_4 a0_5 a0_6 l0_7)))=some r:=by rw [if_pos rfl] at H;exact H
   clear H
   have H:=H1
   clear H1
   replace H:=Option.bind_eq_some_iff.mp H
   obtain ⟨t107,A60,H⟩:=H
   replace H:(if t107=true then ((impl_within.f a0_5 0 7).bind fun t108=>(impl_CliOk.j0 k (!t108) a0_0 a0_1 a0_2 l0_3 l0_4 a0_5 a0_6 l0_7)) else (impl_CliOk.j0 k true a0_0 a0_1 a0_2 l0_3 l0_4 a0_5 a0_6 l0_7))=some r:=H
   have A6:=zA A60
   clear A60
   by_cases c7:t107=true
   ·subst c7
    have H1:((impl_within.f a0_5 0 7).bind fun t108=>(impl_CliOk.j0 k (!t108) a0_0 a0_1 a0_2 l0_3 l0_4 a0_5 a0_6 l0_7))=some r:=by rw [if_pos rfl] at H;exact H
    clear H
    have H:=H1
    clear H1
    replace H:=Option.bind_eq_some_iff.mp H
    obtain ⟨t108,A80,H⟩:=H
    replace H:(impl_CliOk.j0 k (!t108) a0_0 a0_1 a0_2 l0_3 l0_4 a0_5 a0_6 l0_7)=some r:=H
    have A8:=zA A80
    clear A80
    have H':=zA H
    clear H
    have hcz9_0:w3.cell? ⟨gb105,0,none⟩=some (.string a0_0):=zq1 BK105.out 0
    have hcz9_1:w3.cell? ⟨gb105,1,none⟩=some (.string a0_1):=zq1 BK105.out 1
    have hcz9_2:w3.cell? ⟨gb105,2,none⟩=some (.string a0_2):=zq1 BK105.out 2
    have hcz9_3:w3.cell? ⟨gb105,3,none⟩=some (.slice A0_3 l0_3.length c0_3):=zq1 BK105.out 3
    have hcz9_4:w3.cell? ⟨gb105,4,none⟩=some (.slice A0_4 l0_4.length c0_4):=zq1 BK105.out 4
    have hcz9_5:w3.cell? ⟨gb105,5,none⟩=some (.int .i64 a0_5):=zq1 BK105.out 5
    have hcz9_6:w3.cell? ⟨gb105,6,none⟩=some (.int .i64 a0_6):=zq1 BK105.out 6
    have hcz9_7:w3.cell? ⟨gb105,7,none⟩=some (.slice A0_7 l0_7.length c0_7):=zq1 BK105.out 7
    have hfz9_0:=zq7 BK105.out 0
    have hfz9_1:=zq7 BK105.out 1
    have hfz9_2:=zq7 BK105.out 2
    have hfz9_3:=zq7 BK105.out 3
    have hfz9_4:=zq7 BK105.out 4
    have hfz9_5:=zq7 BK105.out 5
    have hfz9_6:=zq7 BK105.out 6
    have hfz9_7:=zq7 BK105.out 7
    go_wp2_with (first|((with_reducible refine zq19 (f:=63) rfl ?_);refine goesL_ (some 6) rfl rfl Tryd.func63 (by kernel_rfl) rfl #[.string a0_0] rfl (by (try simp only [zL3,zL4,zL5]);first|done|rfl|(simp only [zL6,zL7];rfl)) ?_;(with_reducible refine (impl_DomainOk.calls k a0_0 true _ ?side1 A4.out).mono ?_);(case side1=>first|(with_reducible exact HG.out)|((with_reducible repeat (first|exact HG.out|apply GOK.drewN|apply GOK.drew));done)|exact GOK.below HG.out (by repeat (first|(with_reducible first|exact HB.out|apply zq4|apply zq0|apply zq3|refine zq2 ?_ GE105.out)|exact HB.out)));rintro e w10 ⟨rfl,hb⟩;refine ⟨_,rfl,?_⟩;have n0_:=zA (zq13 (by (with_reducible repeat (first|refine zq6 ?_ _|refine zq8 ?_|refine zq5 ?_ _));exact BK105.out) hb);have n1_:=zA (zq11 (by repeat (first|(with_reducible first|exact HB.out|apply zq4|apply zq0|apply zq3|refine zq2 ?_ GE105.out)|exact HB.out)) hb);clear BK105;clear HB;have BK105:=n0_;have HB:=n1_;clear n0_ n1_;(try clear hb);have hcz11_0:w10.cell? ⟨gb105,0,none⟩=some (.string a0_0):=zq1 BK105.out 0;have hcz11_1:w10.cell? ⟨gb105,1,none⟩=some (.string a0_1):=zq1 BK105.out 1;have hcz11_2:w10.cell? ⟨gb105,2,none⟩=some (.string a0_2):=zq1 BK105.out 2;have hcz11_3:w10.cell? ⟨gb105,3,none⟩=some (.slice A0_3 l0_3.length c0_3):=zq1 BK105.out 3;have hcz11_4:w10.cell? ⟨gb105,4,none⟩=some (.slice A0_4 l0_4.length c0_4):=zq1 BK105.out 4;have hcz11_5:w10.cell? ⟨gb105,5,none⟩=some (.int .i64 a0_5):=zq1 BK105.out 5;have hcz11_6:w10.cell? ⟨gb105,6,none⟩=some (.int .i64 a0_6):=zq1 BK105.out 6;have hcz11_7:w10.cell? ⟨gb105,7,none⟩=some (.slice A0_7 l0_7.length c0_7):=zq1 BK105.out 7;have hfz11_0:=zq7 BK105.out 0;have hfz11_1:=zq7 BK105.out 1;have hfz11_2:=zq7 BK105.out 2;have hfz11_3:=zq7 BK105.out 3;have hfz11_4:=zq7 BK105.out 4;have hfz11_5:=zq7 BK105.out 5;have hfz11_6:=zq7 BK105.out 6;have hfz11_7:=zq7 BK105.out 7)|(go_at_call 13;(with_reducible refine (impl_MailOk.calls k a0_1 a0_2 _ _ l0_3 _ _ l0_4 true _ ?side1 ?side2 ?side3 ?side4 ?side5 A6.out).mono ?_);(case side1=>repeat (first|exact (Kd.z1 HR0_3.out HB.out)|(with_reducible refine Kd.z0 ?_ _)|(with_reducible refine Kd.z3 ?_ _)|(with_reducible refine Kd.z2 ?_)));(case side2=>exact HC0_3.out);(case side3=>repeat (first|exact (Kd.z1 HR0_4.out HB.out)|(with_reducible refine Kd.z0 ?_ _)|(with_reducible refine Kd.z3 ?_ _)|(with_reducible refine Kd.z2 ?_)));(case side4=>exact HC0_4.out);(case side5=>first|(with_reducible exact HG.out)|((with_reducible repeat (first|exact HG.out|apply GOK.drewN|apply GOK.drew));done)|exact GOK.below HG.out (by repeat (first|(with_reducible first|exact HB.out|apply zq4|apply zq0|apply zq3|refine zq2 ?_ GE105.out)|exact HB.out)));rintro e w12 ⟨rfl,hb⟩;have n0_:=zA (zq13 (by (with_reducible repeat (first|refine zq6 ?_ _|refine zq8 ?_|refine zq5 ?_ _));exact BK105.out) hb);have n1_:=zA (zq11 (by repeat (first|(with_reducible first|exact HB.out|apply zq4|apply zq0|apply zq3|refine zq2 ?_ GE105.out)|exact HB.out)) hb);clear BK105;clear HB;have BK105:=n0_;have HB:=n1_;clear n0_ n1_;(try clear hb);have hcz13_0:w12.cell? ⟨gb105,0,none⟩=some (.string a0_0):=zq1 BK105.out 0;have hcz13_1:w12.cell? ⟨gb105,1,none⟩=some (.string a0_1):=zq1 BK105.out 1;have hcz13_2:w12.cell? ⟨gb105,2,none⟩=some (.string a0_2):=zq1 BK105.out 2;have hcz13_3:w12.cell? ⟨gb105,3,none⟩=some (.slice A0_3 l0_3.length c0_3):=zq1 BK105.out 3;have hcz13_4:w12.cell? ⟨gb105,4,none⟩=some (.slice A0_4 l0_4.length c0_4):=zq1 BK105.out 4;have hcz13_5:w12.cell? ⟨gb105,5,none⟩=some (.int .i64 a0_5):=zq1 BK105.out 5;have hcz13_6:w12.cell? ⟨gb105,6,none⟩=some (.int .i64 a0_6):=zq1 BK105.out 6;have hcz13_7:w12.cell? ⟨gb105,7,none⟩=some (.slice A0_7 l0_7.length c0_7):=zq1 BK105.out 7;have hfz13_0:=zq7 BK105.out 0;have hfz13_1:=zq7 BK105.out 1;have hfz13_2:=zq7 BK105.out 2;have hfz13_3:=zq7 BK105.out 3;have hfz13_4:=zq7 BK105.out 4;have hfz13_5:=zq7 BK105.out 5;have hfz13_6:=zq7 BK105.out 6;have hfz13_7:=zq7 BK105.out 7)|(go_at_call 49;(with_reducible refine (impl_within.calls a0_5 0 7 t108 _ A8.out).mono ?_);rintro e w' ⟨rfl,⟨nd,rfl⟩⟩))
    go_meet
    case rel=>exact ⟨_,(!t108),(by first|rfl|(simp;done)|(simp [*];done)),H',⟨by first|omega|exact Nat.le_refl _⟩,⟨by (with_reducible repeat (first|refine zq6 ?_ _|refine zq8 ?_|refine zq5 ?_ _));exact BK105.out⟩,⟨by repeat (first|(with_reducible first|exact HB.out|apply zq4|apply zq0|apply zq3|refine zq2 ?_ GE105.out)|exact HB.out)⟩⟩
   ·replace c7:=Bool.eq_false_iff.mpr c7
    subst c7
    have H1:(impl_CliOk.j0 k true a0_0 a0_1 a0_2 l0_3 l0_4 a0_5 a0_6 l0_7)=some r:=by rw [if_neg (show ¬ (false=true) by decide)] at H;exact H
    clear H
    have H:=H1
    clear H1
    have H':=zA H
    clear H
    have hcz14_0:w3.cell? ⟨gb105,0,none⟩=some (.string a0_0):=zq1 BK105.out 0
    have hcz14_1:w3.cell? ⟨gb105,1,none⟩=some (.string a0_1):=zq1 BK105.out 1
    have hcz14_2:w3.cell? ⟨gb105,2,none⟩=some (.string a0_2):=zq1 BK105.out 2
    have hcz14_3:w3.cell? ⟨gb105,3,none⟩=some (.slice A0_3 l0_3.length c0_3):=zq1 BK105.out 3
    have hcz14_4:w3.cell? ⟨gb105,4,none⟩=some (.slice A0_4 l0_4.length c0_4):=zq1 BK105.out 4
    have hcz14_5:w3.cell? ⟨gb105,5,none⟩=some (.int .i64 a0_5):=zq1 BK105.out 5
    have hcz14_6:w3.cell? ⟨gb105,6,none⟩=some (.int .i64 a0_6):=zq1 BK105.out 6
    have hcz14_7:w3.cell? ⟨gb105,7,none⟩=some (.slice A0_7 l0_7.length c0_7):=zq1 BK105.out 7
    have hfz14_0:=zq7 BK105.out 0
    have hfz14_1:=zq7 BK105.out 1
    have hfz14_2:=zq7 BK105.out 2
    have hfz14_3:=zq7 BK105.out 3
    have hfz14_4:=zq7 BK105.out 4
    have hfz14_5:=zq7 BK105.out 5
    have hfz14_6:=zq7 BK105.out 6
    have hfz14_7:=zq7 BK105.out 7
    go_wp2_with (first|((with_reducible refine zq19 (f:=63) rfl ?_);refine goesL_ (some 6) rfl rfl Tryd.func63 (by kernel_rfl) rfl #[.string a0_0] rfl (by (try simp only [zL3,zL4,zL5]);first|done|rfl|(simp only [zL6,zL7];rfl)) ?_;(with_reducible refine (impl_DomainOk.calls k a0_0 true _ ?side1 A4.out).mono ?_);(case side1=>first|(with_reducible exact HG.out)|((with_reducible repeat (first|exact HG.out|apply GOK.drewN|apply GOK.drew));done)|exact GOK.below HG.out (by repeat (first|(with_reducible first|exact HB.out|apply zq4|apply zq0|apply zq3|refine zq2 ?_ GE105.out)|exact HB.out)));rintro e w15 ⟨rfl,hb⟩;refine ⟨_,rfl,?_⟩;have n0_:=zA (zq13 (by (with_reducible repeat (first|refine zq6 ?_ _|refine zq8 ?_|refine zq5 ?_ _));exact BK105.out) hb);have n1_:=zA (zq11 (by repeat (first|(with_reducible first|exact HB.out|apply zq4|apply zq0|apply zq3|refine zq2 ?_ GE105.out)|exact HB.out)) hb);clear BK105;clear HB;have BK105:=n0_;have HB:=n1_;clear n0_ n1_;(try clear hb);have hcz16_0:w15.cell? ⟨gb105,0,none⟩=some (.string a0_0):=zq1 BK105.out 0;have hcz16_1:w15.cell? ⟨gb105,1,none⟩=some (.string a0_1):=zq1 BK105.out 1;have hcz16_2:w15.cell? ⟨gb105,2,none⟩=some (.string a0_2):=zq1 BK105.out 2;have hcz16_3:w15.cell? ⟨gb105,3,none⟩=some (.slice A0_3 l0_3.length c0_3):=zq1 BK105.out 3;have hcz16_4:w15.cell? ⟨gb105,4,none⟩=some (.slice A0_4 l0_4.length c0_4):=zq1 BK105.out 4;have hcz16_5:w15.cell? ⟨gb105,5,none⟩=some (.int .i64 a0_5):=zq1 BK105.out 5;have hcz16_6:w15.cell? ⟨gb105,6,none⟩=some (.int .i64 a0_6):=zq1 BK105.out 6;have hcz16_7:w15.cell? ⟨gb105,7,none⟩=some (.slice A0_7 l0_7.length c0_7):=zq1 BK105.out 7;have hfz16_0:=zq7 BK105.out 0;have hfz16_1:=zq7 BK105.out 1;have hfz16_2:=zq7 BK105.out 2;have hfz16_3:=zq7 BK105.out 3;have hfz16_4:=zq7 BK105.out 4;have hfz16_5:=zq7 BK105.out 5;have hfz16_6:=zq7 BK105.out 6;have hfz16_7:=zq7 BK105.out 7)|(go_at_call 13;(with_reducible refine (impl_MailOk.calls k a0_1 a0_2 _ _ l0_3 _ _ l0_4 false _ ?side1 ?side2 ?side3 ?side4 ?side5 A6.out).mono ?_);(case side1=>repeat (first|exact (Kd.z1 HR0_3.out HB.out)|(with_reducible refine Kd.z0 ?_ _)|(with_reducible refine Kd.z3 ?_ _)|(with_reducible refine Kd.z2 ?_)));(case side2=>exact HC0_3.out);(case side3=>repeat (first|exact (Kd.z1 HR0_4.out HB.out)|(with_reducible refine Kd.z0 ?_ _)|(with_reducible refine Kd.z3 ?_ _)|(with_reducible refine Kd.z2 ?_)));(case side4=>exact HC0_4.out);(case side5=>first|(with_reducible exact HG.out)|((with_reducible repeat (first|exact HG.out|apply GOK.drewN|apply GOK.drew));done)|exact GOK.below HG.out (by repeat (first|(with_reducible first|exact HB.out|apply zq4|apply zq0|apply zq3|refine zq2 ?_ GE105.out)|exact HB.out)));rintro e w17 ⟨rfl,hb⟩;have n0_:=zA (zq13 (by (with_reducible repeat (first|refine zq6 ?_ _|refine zq8 ?_|refine zq5 ?_ _));exact BK105.out) hb);have n1_:=zA (zq11 (by repeat (first|(with_reducible first|exact HB.out|apply zq4|apply zq0|apply zq3|refine zq2 ?_ GE105.out)|exact HB.out)) hb);clear BK105;clear HB;have BK105:=n0_;have HB:=n1_;clear n0_ n1_;(try clear hb)))
    go_meet
    case rel=>exact ⟨_,(true),(by first|rfl|(simp;done)|(simp [*];done)),H',⟨by first|omega|exact Nat.le_refl _⟩,⟨by (with_reducible repeat (first|refine zq6 ?_ _|refine zq8 ?_|refine zq5 ?_ _));exact BK105.out⟩,⟨by repeat (first|(with_reducible first|exact HB.out|apply zq4|apply zq0|apply zq3|refine zq2 ?_ GE105.out)|exact HB.out)⟩⟩
  ·replace c5:=Bool.eq_false_iff.mpr c5
   subst c5
   have H1:(impl_CliOk.j0 k true a0_0 a0_1 a0_2 l0_3 l0_4 a0_5 a0_6 l0_7)=some r:=by rw [if_neg (show ¬ (false=true) by decide)] at H;exact H
   clear H
   have H:=H1
   clear H1
   have H':=zA H
   clear H
   have hcz18_0:w3.cell? ⟨gb105,0,none⟩=some (.string a0_0):=zq1 BK105.out 0
   have hcz18_1:w3.cell? ⟨gb105,1,none⟩=some (.string a0_1):=zq1 BK105.out 1
   have hcz18_2:w3.cell? ⟨gb105,2,none⟩=some (.string a0_2):=zq1 BK105.out 2
   have hcz18_3:w3.cell? ⟨gb105,3,none⟩=some (.slice A0_3 l0_3.length c0_3):=zq1 BK105.out 3
   have hcz18_4:w3.cell? ⟨gb105,4,none⟩=some (.slice A0_4 l0_4.length c0_4):=zq1 BK105.out 4
   have hcz18_5:w3.cell? ⟨gb105,5,none⟩=some (.int .i64 a0_5):=zq1 BK105.out 5
   have hcz18_6:w3.cell? ⟨gb105,6,none⟩=some (.int .i64 a0_6):=zq1 BK105.out 6
   have hcz18_7:w3.cell? ⟨gb105,7,none⟩=some (.slice A0_7 l0_7.length c0_7):=zq1 BK105.out 7
   have hfz18_0:=zq7 BK105.out 0
   have hfz18_1:=zq7 BK105.out 1
   have hfz18_2:=zq7 BK105.out 2
   have hfz18_3:=zq7 BK105.out 3
   have hfz18_4:=zq7 BK105.out 4
   have hfz18_5:=zq7 BK105.out 5
   have hfz18_6:=zq7 BK105.out 6
   have hfz18_7:=zq7 BK105.out 7
   go_wp2_with (first|((with_reducible refine zq19 (f:=63) rfl ?_);refine goesL_ (some 6) rfl rfl Tryd.func63 (by kernel_rfl) rfl #[.string a0_0] rfl (by (try simp only [zL3,zL4,zL5]);first|done|rfl|(simp only [zL6,zL7];rfl)) ?_;(with_reducible refine (impl_DomainOk.calls k a0_0 false _ ?side1 A4.out).mono ?_);(case side1=>first|(with_reducible exact HG.out)|((with_reducible repeat (first|exact HG.out|apply GOK.drewN|apply GOK.drew));done)|exact GOK.below HG.out (by repeat (first|(with_reducible first|exact HB.out|apply zq4|apply zq0|apply zq3|refine zq2 ?_ GE105.out)|exact HB.out)));rintro e w19 ⟨rfl,hb⟩;refine ⟨_,rfl,?_⟩;have n0_:=zA (zq13 (by (with_reducible repeat (first|refine zq6 ?_ _|refine zq8 ?_|refine zq5 ?_ _));exact BK105.out) hb);have n1_:=zA (zq11 (by repeat (first|(with_reducible first|exact HB.out|apply zq4|apply zq0|apply zq3|refine zq2 ?_ GE105.out)|exact HB.out)) hb);clear BK105;clear HB;have BK105:=n0_;have HB:=n1_;clear n0_ n1_;(try clear hb)))
   go_meet
   case rel=>exact ⟨_,(true),(by first|rfl|(simp;done)|(simp [*];done)),H',⟨by first|omega|exact Nat.le_refl _⟩,⟨by (with_reducible repeat (first|refine zq6 ?_ _|refine zq8 ?_|refine zq5 ?_ _));exact BK105.out⟩,⟨by repeat (first|(with_reducible first|exact HB.out|apply zq4|apply zq0|apply zq3|refine zq2 ?_ GE105.out)|exact HB.out)⟩⟩
 case rest =>
  clear HC2
  try clear p2
  try clear c3
  try clear c5
  try clear c6
  try clear c7
  try clear hcz11_0
  try clear hcz11_1
  try clear hcz11_2
  try clear hcz11_3
  try clear hcz11_4
  try clear hcz11_5
  try clear hcz11_6
  try clear hcz11_7
  try clear hcz13_0
  try clear hcz13_1
  try clear hcz13_2
  try clear hcz13_3
  try clear hcz13_4
  try clear hcz13_5
  try clear hcz13_6
  try clear hcz13_7
  try clear hcz14_0
  try clear hcz14_1
  try clear hcz14_2
  try clear hcz14_3
  try clear hcz14_4
  try clear hcz14_5
  try clear hcz14_6
  try clear hcz14_7
  try clear hcz16_0
  try clear hcz16_1
  try clear hcz16_2
  try clear hcz16_3
  try clear hcz16_4
  try clear hcz16_5
  try clear hcz16_6
  try clear hcz16_7
  try clear hcz18_0
  try clear hcz18_1
  try clear hcz18_2
  try clear hcz18_3
  try clear hcz18_4
  try clear hcz18_5
  try clear hcz18_6
  try clear hcz18_7
  try clear hcz9_0
  try clear hcz9_1
  try clear hcz9_2
  try clear hcz9_3
  try clear hcz9_4
  try clear hcz9_5
  try clear hcz9_6
  try clear hcz9_7
  try clear hfz11_0
  try clear hfz11_1
  try clear hfz11_2
  try clear hfz11_3
  try clear hfz11_4
  try clear hfz11_5
  try clear hfz11_6
  try clear hfz11_7
  try clear hfz13_0
  try clear hfz13_1
  try clear hfz13_2
  try clear hfz13_3
  try clear hfz13_4
  try clear hfz13_5
  try clear hfz13_6
  try clear hfz13_7
  try clear hfz14_0
  try clear hfz14_1
  try clear hfz14_2
  try clear hfz14_3
  try clear hfz14_4
  try clear hfz14_5
  try clear hfz14_6
  try clear hfz14_7
  try clear hfz16_0
  try clear hfz16_1
  try clear hfz16_2
  try clear hfz16_3
  try clear hfz16_4
  try clear hfz16_5
  try clear hfz16_6
  try clear hfz16_7
  try clear hfz18_0
  try clear hfz18_1
  try clear hfz18_2
  try clear hfz18_3
  try clear hfz18_4
  try clear hfz18_5
  try clear hfz18_6
  try clear hfz18_7
  try clear hfz9_0
  try clear hfz9_1
  try clear hfz9_2
  try clear hfz9_3
  try clear hfz9_4
  try clear hfz9_5
  try clear hfz9_6
  try clear hfz9_7
  obtain ⟨kq,x19_1,rfl,HA,HJ1,BK105,HB⟩:=hcut
  cases kq with
  | zero=>exact absurd HA.out (by simp [impl_CliOk.j0])
  | succ kj1 =>
   have H:=HA.out
   clear HA
   simp only [impl_CliOk.j0] at H
   by_cases c20:x19_1=true
   ·subst c20
    have H1:(some false)=some r:=by rw [if_pos rfl] at H;exact H
    clear H
    have H:=H1
    clear H1
    obtain rfl:=Option.some.inj H
    go_wp2
    go_ret
    exact ⟨by first|rfl|(simp [zq16,zq17]<;>rfl)|(simp [*,zq16,zq17]<;>rfl),by repeat (first|(with_reducible first|exact HB.out|apply zq4|apply zq0|apply zq3|refine zq2 ?_ GE105.out)|exact HB.out)⟩
   ·replace c20:=Bool.eq_false_iff.mpr c20
    subst c20
    have H1:((impl_within.f a0_6 0 (l0_3.length:Int)).bind fun t109=>(if t109=true then (if a0_5=3 then (if a0_6 > 0 then (if (l0_7.length:Int)=(l0_3.length:Int) then ((slices_ContainsFunc_int_int_at76.f kj1 l0_7).bind fun t110=>(some (!t110))) else (some false)) else (some false)) else (if (l0_7.length:Int)=(l0_3.length:Int) then ((slices_ContainsFunc_int_int_at76.f kj1 l0_7).bind fun t111=>(some (!t111))) else (some false))) else (some false)))=some r:=by rw [if_neg (show ¬ (false=true) by decide)] at H;exact H
    clear H
    have H:=H1
    clear H1
    replace H:=Option.bind_eq_some_iff.mp H
    obtain ⟨t109,A210,H⟩:=H
    replace H:(if t109=true then (if a0_5=3 then (if a0_6 > 0 then (if (l0_7.length:Int)=(l0_3.length:Int) then ((slices_ContainsFunc_int_int_at76.f kj1 l0_7).bind fun t110=>(some (!t110))) else (some false)) else (some false)) else (if (l0_7.length:Int)=(l0_3.length:Int) then ((slices_ContainsFunc_int_int_at76.f kj1 l0_7).bind fun t111=>(some (!t111))) else (some false))) else (some false))=some r:=H
    have A21:=zA A210
    clear A210
    by_cases c22:t109=true
    ·subst c22
     have H1:(if a0_5=3 then (if a0_6 > 0 then (if (l0_7.length:Int)=(l0_3.length:Int) then ((slices_ContainsFunc_int_int_at76.f kj1 l0_7).bind fun t110=>(some (!t110))) else (some false)) else (some false)) else (if (l0_7.length:Int)=(l0_3.length:Int) then ((slices_ContainsFunc_int_int_at76.f kj1 l0_7).bind fun t111=>(some (!t111))) else (some false)))=some r:=by rw [if_pos rfl] at H;exact H
     clear H
     have H:=H1
     clear H1
     by_cases c23:a0_5=3
     ·rw [if_pos c23] at H
      have c23b0:(a0_5==3)=true:=beq_iff_eq.mpr c23
      have c23b1:(a0_5 != 3)=false:=bne_eq_false_iff_eq.mpr c23
      clear c23
      by_cases c24:a0_6 > 0
      ·rw [if_pos c24] at H
       have c24b0:decide (0 < a0_6)=true:=decide_eq_true c24
       clear c24
       by_cases c25:(l0_7.length:Int)=(l0_3.length:Int)
       ·rw [if_pos c25] at H
        have c25b0:((l0_7.length:Int)==(l0_3.length:Int))=true:=beq_iff_eq.mpr c25
        have c25b1:((l0_7.length:Int) != (l0_3.length:Int))=false:=bne_eq_false_iff_eq.mpr c25
        have c25b2:(l0_7.length==l0_3.length)=true:=by first|simpa using c25|(simp at c25 ⊢;omega)
        clear c25
        replace H:=Option.bind_eq_some_iff.mp H
        obtain ⟨t110,A260,H⟩:=H
        replace H:(some (!t110))=some r:=H
        have A26:=zA A260
        clear A260
        obtain rfl:=Option.some.inj H
        have hcz27_0:wc.cell? ⟨gb105,0,none⟩=some (.string a0_0):=zq1 BK105.out 0
        have hcz27_1:wc.cell? ⟨gb105,1,none⟩=some (.string a0_1):=zq1 BK105.out 1
        have hcz27_2:wc.cell? ⟨gb105,2,none⟩=some (.string a0_2):=zq1 BK105.out 2
        have hcz27_3:wc.cell? ⟨gb105,3,none⟩=some (.slice A0_3 l0_3.length c0_3):=zq1 BK105.out 3
        have hcz27_4:wc.cell? ⟨gb105,4,none⟩=some (.slice A0_4 l0_4.length c0_4):=zq1 BK105.out 4
        have hcz27_5:wc.cell? ⟨gb105,5,none⟩=some (.int .i64 a0_5):=zq1 BK105.out 5
        have hcz27_6:wc.cell? ⟨gb105,6,none⟩=some (.int .i64 a0_6):=zq1 BK105.out 6
        have hcz27_7:wc.cell? ⟨gb105,7,none⟩=some (.slice A0_7 l0_7.length c0_7):=zq1 BK105.out 7
        have hfz27_0:=zq7 BK105.out 0
        have hfz27_1:=zq7 BK105.out 1
        have hfz27_2:=zq7 BK105.out 2
        have hfz27_3:=zq7 BK105.out 3
        have hfz27_4:=zq7 BK105.out 4
        have hfz27_5:=zq7 BK105.out 5
        have hfz27_6:=zq7 BK105.out 6
        have hfz27_7:=zq7 BK105.out 7
        go_wp2_with (first|((with_reducible refine zq19 (f:=49) rfl ?_);refine goesL_ (some 26) rfl rfl Tryd.func49 (by kernel_rfl) rfl #[.int .i64 a0_6,.int .i64 0,.int .i64 (l0_3.length:Int)] rfl (by (try simp only [zL3,zL4,zL5]);first|done|rfl|(simp only [zL6,zL7];rfl)) ?_;(with_reducible refine (impl_within.calls a0_6 0 (l0_3.length:Int) true _ A21.out).mono ?_);rintro e w' ⟨rfl,⟨nd,rfl⟩⟩;refine ⟨_,rfl,?_⟩)|(go_at_call 77;(with_reducible refine (slices_ContainsFunc_int_int_at76.calls kj1 _ _ l0_7  t110 _ ?side1 ?side2 A26.out).mono ?_);(case side1=>repeat (first|exact (Kd.z1 HR0_7.out (by repeat (first|(with_reducible first|exact HB.out|apply zq4|apply zq0|apply zq3|refine zq2 ?_ GE105.out)|exact HB.out)))|(with_reducible refine Kd.z0 ?_ _)|(with_reducible refine Kd.z3 ?_ _)|(with_reducible refine Kd.z2 ?_)));(case side2=>exact HC0_7.out);rintro e w' ⟨rfl,⟨nd,rfl⟩⟩))
        go_ret
        exact ⟨by first|rfl|(simp [zq16,zq17]<;>rfl)|(simp [*,zq16,zq17]<;>rfl),by repeat (first|(with_reducible first|exact HB.out|apply zq4|apply zq0|apply zq3|refine zq2 ?_ GE105.out)|exact HB.out)⟩
       ·rw [if_neg c25] at H
        have c25b0:((l0_7.length:Int)==(l0_3.length:Int))=false:=beq_eq_false_iff_ne.mpr c25
        have c25b1:((l0_7.length:Int) != (l0_3.length:Int))=true:=bne_iff_ne.mpr c25
        have c25b2:(l0_7.length==l0_3.length)=false:=by first|simpa using c25|(simp at c25 ⊢;omega)
        obtain rfl:=Option.some.inj H
        have hcz28_0:wc.cell? ⟨gb105,0,none⟩=some (.string a0_0):=zq1 BK105.out 0
        have hcz28_1:wc.cell? ⟨gb105,1,none⟩=some (.string a0_1):=zq1 BK105.out 1
        have hcz28_2:wc.cell? ⟨gb105,2,none⟩=some (.string a0_2):=zq1 BK105.out 2
        have hcz28_3:wc.cell? ⟨gb105,3,none⟩=some (.slice A0_3 l0_3.length c0_3):=zq1 BK105.out 3
        have hcz28_4:wc.cell? ⟨gb105,4,none⟩=some (.slice A0_4 l0_4.length c0_4):=zq1 BK105.out 4
        have hcz28_5:wc.cell? ⟨gb105,5,none⟩=some (.int .i64 a0_5):=zq1 BK105.out 5
        have hcz28_6:wc.cell? ⟨gb105,6,none⟩=some (.int .i64 a0_6):=zq1 BK105.out 6
        have hcz28_7:wc.cell? ⟨gb105,7,none⟩=some (.slice A0_7 l0_7.length c0_7):=zq1 BK105.out 7
        have hfz28_0:=zq7 BK105.out 0
        have hfz28_1:=zq7 BK105.out 1
        have hfz28_2:=zq7 BK105.out 2
        have hfz28_3:=zq7 BK105.out 3
        have hfz28_4:=zq7 BK105.out 4
        have hfz28_5:=zq7 BK105.out 5
        have hfz28_6:=zq7 BK105.out 6
        have hfz28_7:=zq7 BK105.out 7
        go_wp2_with (first|((with_reducible refine zq19 (f:=49) rfl ?_);refine goesL_ (some 26) rfl rfl Tryd.func49 (by kernel_rfl) rfl #[.int .i64 a0_6,.int .i64 0,.int .i64 (l0_3.length:Int)] rfl (by (try simp only [zL3,zL4,zL5]);first|done|rfl|(simp only [zL6,zL7];rfl)) ?_;(with_reducible refine (impl_within.calls a0_6 0 (l0_3.length:Int) true _ A21.out).mono ?_);rintro e w' ⟨rfl,⟨nd,rfl⟩⟩;refine ⟨_,rfl,?_⟩))
        go_ret
        exact ⟨by first|rfl|(simp [zq16,zq17]<;>rfl)|(simp [*,zq16,zq17]<;>rfl),by repeat (first|(with_reducible first|exact HB.out|apply zq4|apply zq0|apply zq3|refine zq2 ?_ GE105.out)|exact HB.out)⟩
      ·rw [if_neg c24] at H
       have c24b0:decide (0 < a0_6)=false:=decide_eq_false c24
       clear c24
       obtain rfl:=Option.some.inj H
       have hcz29_0:wc.cell? ⟨gb105,0,none⟩=some (.string a0_0):=zq1 BK105.out 0
       have hcz29_1:wc.cell? ⟨gb105,1,none⟩=some (.string a0_1):=zq1 BK105.out 1
       have hcz29_2:wc.cell? ⟨gb105,2,none⟩=some (.string a0_2):=zq1 BK105.out 2
       have hcz29_3:wc.cell? ⟨gb105,3,none⟩=some (.slice A0_3 l0_3.length c0_3):=zq1 BK105.out 3
       have hcz29_4:wc.cell? ⟨gb105,4,none⟩=some (.slice A0_4 l0_4.length c0_4):=zq1 BK105.out 4
       have hcz29_5:wc.cell? ⟨gb105,5,none⟩=some (.int .i64 a0_5):=zq1 BK105.out 5
       have hcz29_6:wc.cell? ⟨gb105,6,none⟩=some (.int .i64 a0_6):=zq1 BK105.out 6
       have hcz29_7:wc.cell? ⟨gb105,7,none⟩=some (.slice A0_7 l0_7.length c0_7):=zq1 BK105.out 7
       have hfz29_0:=zq7 BK105.out 0
       have hfz29_1:=zq7 BK105.out 1
       have hfz29_2:=zq7 BK105.out 2
       have hfz29_3:=zq7 BK105.out 3
       have hfz29_4:=zq7 BK105.out 4
       have hfz29_5:=zq7 BK105.out 5
       have hfz29_6:=zq7 BK105.out 6
       have hfz29_7:=zq7 BK105.out 7
       go_wp2_with (first|((with_reducible refine zq19 (f:=49) rfl ?_);refine goesL_ (some 26) rfl rfl Tryd.func49 (by kernel_rfl) rfl #[.int .i64 a0_6,.int .i64 0,.int .i64 (l0_3.length:Int)] rfl (by (try simp only [zL3,zL4,zL5]);first|done|rfl|(simp only [zL6,zL7];rfl)) ?_;(with_reducible refine (impl_within.calls a0_6 0 (l0_3.length:Int) true _ A21.out).mono ?_);rintro e w' ⟨rfl,⟨nd,rfl⟩⟩;refine ⟨_,rfl,?_⟩))
       go_ret
       exact ⟨by first|rfl|(simp [zq16,zq17]<;>rfl)|(simp [*,zq16,zq17]<;>rfl),by repeat (first|(with_reducible first|exact HB.out|apply zq4|apply zq0|apply zq3|refine zq2 ?_ GE105.out)|exact HB.out)⟩
     ·rw [if_neg c23] at H
      have c23b0:(a0_5==3)=false:=beq_eq_false_iff_ne.mpr c23
      have c23b1:(a0_5 != 3)=true:=bne_iff_ne.mpr c23
      by_cases c30:(l0_7.length:Int)=(l0_3.length:Int)
      ·rw [if_pos c30] at H
       have c30b0:((l0_7.length:Int)==(l0_3.length:Int))=true:=beq_iff_eq.mpr c30
       have c30b1:((l0_7.length:Int) != (l0_3.length:Int))=false:=bne_eq_false_iff_eq.mpr c30
       have c30b2:(l0_7.length==l0_3.length)=true:=by first|simpa using c30|(simp at c30 ⊢;omega)
       clear c30
       replace H:=Option.bind_eq_some_iff.mp H
       obtain ⟨t111,A310,H⟩:=H
       replace H:(some (!t111))=some r:=H
       have A31:=zA A310
       clear A310
       obtain rfl:=Option.some.inj H
       have hcz32_0:wc.cell? ⟨gb105,0,none⟩=some (.string a0_0):=zq1 BK105.out 0
       have hcz32_1:wc.cell? ⟨gb105,1,none⟩=some (.string a0_1):=zq1 BK105.out 1
       have hcz32_2:wc.cell? ⟨gb105,2,none⟩=some (.string a0_2):=zq1 BK105.out 2
       have hcz32_3:wc.cell? ⟨gb105,3,none⟩=some (.slice A0_3 l0_3.length c0_3):=zq1 BK105.out 3
       have hcz32_4:wc.cell? ⟨gb105,4,none⟩=some (.slice A0_4 l0_4.length c0_4):=zq1 BK105.out 4
       have hcz32_5:wc.cell? ⟨gb105,5,none⟩=some (.int .i64 a0_5):=zq1 BK105.out 5
       have hcz32_6:wc.cell? ⟨gb105,6,none⟩=some (.int .i64 a0_6):=zq1 BK105.out 6
       have hcz32_7:wc.cell? ⟨gb105,7,none⟩=some (.slice A0_7 l0_7.length c0_7):=zq1 BK105.out 7
       have hfz32_0:=zq7 BK105.out 0
       have hfz32_1:=zq7 BK105.out 1
       have hfz32_2:=zq7 BK105.out 2
       have hfz32_3:=zq7 BK105.out 3
       have hfz32_4:=zq7 BK105.out 4
       have hfz32_5:=zq7 BK105.out 5
       have hfz32_6:=zq7 BK105.out 6
       have hfz32_7:=zq7 BK105.out 7
       go_wp2_with (first|((with_reducible refine zq19 (f:=49) rfl ?_);refine goesL_ (some 26) rfl rfl Tryd.func49 (by kernel_rfl) rfl #[.int .i64 a0_6,.int .i64 0,.int .i64 (l0_3.length:Int)] rfl (by (try simp only [zL3,zL4,zL5]);first|done|rfl|(simp only [zL6,zL7];rfl)) ?_;(with_reducible refine (impl_within.calls a0_6 0 (l0_3.length:Int) true _ A21.out).mono ?_);rintro e w' ⟨rfl,⟨nd,rfl⟩⟩;refine ⟨_,rfl,?_⟩)|(go_at_call 77;(with_reducible refine (slices_ContainsFunc_int_int_at76.calls kj1 _ _ l0_7  t111 _ ?side1 ?side2 A31.out).mono ?_);(case side1=>repeat (first|exact (Kd.z1 HR0_7.out (by repeat (first|(with_reducible first|exact HB.out|apply zq4|apply zq0|apply zq3|refine zq2 ?_ GE105.out)|exact HB.out)))|(with_reducible refine Kd.z0 ?_ _)|(with_reducible refine Kd.z3 ?_ _)|(with_reducible refine Kd.z2 ?_)));(case side2=>exact HC0_7.out);rintro e w' ⟨rfl,⟨nd,rfl⟩⟩))
       go_ret
       exact ⟨by first|rfl|(simp [zq16,zq17]<;>rfl)|(simp [*,zq16,zq17]<;>rfl),by repeat (first|(with_reducible first|exact HB.out|apply zq4|apply zq0|apply zq3|refine zq2 ?_ GE105.out)|exact HB.out)⟩
      ·rw [if_neg c30] at H
       have c30b0:((l0_7.length:Int)==(l0_3.length:Int))=false:=beq_eq_false_iff_ne.mpr c30
       have c30b1:((l0_7.length:Int) != (l0_3.length:Int))=true:=bne_iff_ne.mpr c30
       have c30b2:(l0_7.length==l0_3.length)=false:=by first|simpa using c30|(simp at c30 ⊢;omega)
       obtain rfl:=Option.some.inj H
       have hcz33_0:wc.cell? ⟨gb105,0,none⟩=some (.string a0_0):=zq1 BK105.out 0
       have hcz33_1:wc.cell? ⟨gb105,1,none⟩=some (.string a0_1):=zq1 BK105.out 1
       have hcz33_2:wc.cell? ⟨gb105,2,none⟩=some (.string a0_2):=zq1 BK105.out 2
       have hcz33_3:wc.cell? ⟨gb105,3,none⟩=some (.slice A0_3 l0_3.length c0_3):=zq1 BK105.out 3
       have hcz33_4:wc.cell? ⟨gb105,4,none⟩=some (.slice A0_4 l0_4.length c0_4):=zq1 BK105.out 4
       have hcz33_5:wc.cell? ⟨gb105,5,none⟩=some (.int .i64 a0_5):=zq1 BK105.out 5
       have hcz33_6:wc.cell? ⟨gb105,6,none⟩=some (.int .i64 a0_6):=zq1 BK105.out 6
       have hcz33_7:wc.cell? ⟨gb105,7,none⟩=some (.slice A0_7 l0_7.length c0_7):=zq1 BK105.out 7
       have hfz33_0:=zq7 BK105.out 0
       have hfz33_1:=zq7 BK105.out 1
       have hfz33_2:=zq7 BK105.out 2
       have hfz33_3:=zq7 BK105.out 3
       have hfz33_4:=zq7 BK105.out 4
       have hfz33_5:=zq7 BK105.out 5
       have hfz33_6:=zq7 BK105.out 6
       have hfz33_7:=zq7 BK105.out 7
       go_wp2_with (first|((with_reducible refine zq19 (f:=49) rfl ?_);refine goesL_ (some 26) rfl rfl Tryd.func49 (by kernel_rfl) rfl #[.int .i64 a0_6,.int .i64 0,.int .i64 (l0_3.length:Int)] rfl (by (try simp only [zL3,zL4,zL5]);first|done|rfl|(simp only [zL6,zL7];rfl)) ?_;(with_reducible refine (impl_within.calls a0_6 0 (l0_3.length:Int) true _ A21.out).mono ?_);rintro e w' ⟨rfl,⟨nd,rfl⟩⟩;refine ⟨_,rfl,?_⟩))
       go_ret
       exact ⟨by first|rfl|(simp [zq16,zq17]<;>rfl)|(simp [*,zq16,zq17]<;>rfl),by repeat (first|(with_reducible first|exact HB.out|apply zq4|apply zq0|apply zq3|refine zq2 ?_ GE105.out)|exact HB.out)⟩
    ·replace c22:=Bool.eq_false_iff.mpr c22
     subst c22
     have H1:(some false)=some r:=by rw [if_neg (show ¬ (false=true) by decide)] at H;exact H
     clear H
     have H:=H1
     clear H1
     obtain rfl:=Option.some.inj H
     have hcz34_0:wc.cell? ⟨gb105,0,none⟩=some (.string a0_0):=zq1 BK105.out 0
     have hcz34_1:wc.cell? ⟨gb105,1,none⟩=some (.string a0_1):=zq1 BK105.out 1
     have hcz34_2:wc.cell? ⟨gb105,2,none⟩=some (.string a0_2):=zq1 BK105.out 2
     have hcz34_3:wc.cell? ⟨gb105,3,none⟩=some (.slice A0_3 l0_3.length c0_3):=zq1 BK105.out 3
     have hcz34_4:wc.cell? ⟨gb105,4,none⟩=some (.slice A0_4 l0_4.length c0_4):=zq1 BK105.out 4
     have hcz34_5:wc.cell? ⟨gb105,5,none⟩=some (.int .i64 a0_5):=zq1 BK105.out 5
     have hcz34_6:wc.cell? ⟨gb105,6,none⟩=some (.int .i64 a0_6):=zq1 BK105.out 6
     have hcz34_7:wc.cell? ⟨gb105,7,none⟩=some (.slice A0_7 l0_7.length c0_7):=zq1 BK105.out 7
     have hfz34_0:=zq7 BK105.out 0
     have hfz34_1:=zq7 BK105.out 1
     have hfz34_2:=zq7 BK105.out 2
     have hfz34_3:=zq7 BK105.out 3
     have hfz34_4:=zq7 BK105.out 4
     have hfz34_5:=zq7 BK105.out 5
     have hfz34_6:=zq7 BK105.out 6
     have hfz34_7:=zq7 BK105.out 7
     go_wp2_with (first|((with_reducible refine zq19 (f:=49) rfl ?_);refine goesL_ (some 26) rfl rfl Tryd.func49 (by kernel_rfl) rfl #[.int .i64 a0_6,.int .i64 0,.int .i64 (l0_3.length:Int)] rfl (by (try simp only [zL3,zL4,zL5]);first|done|rfl|(simp only [zL6,zL7];rfl)) ?_;(with_reducible refine (impl_within.calls a0_6 0 (l0_3.length:Int) false _ A21.out).mono ?_);rintro e w' ⟨rfl,⟨nd,rfl⟩⟩;refine ⟨_,rfl,?_⟩))
     go_ret
     exact ⟨by first|rfl|(simp [zq16,zq17]<;>rfl)|(simp [*,zq16,zq17]<;>rfl),by repeat (first|(with_reducible first|exact HB.out|apply zq4|apply zq0|apply zq3|refine zq2 ?_ GE105.out)|exact HB.out)⟩
end Go.Proofs.YthkibaldmjfmmaaDoor.Q
