/- Of a text of ours what this claim needs. -/
import Derived.Test.YthkibaldmjfmmaaDoorZzFnCliNewSQ0
import Derived.Test.YthkibaldmjfmmaaDoorZzFnCliNewSQ7
import Derived.Test.YthkibaldmjfmmaaDoorZzFnCliNewSQ8
import Derived.Test.YthkibaldmjfmmaaDoorZzFnCliNewSHDist
import Derived.Test.YthkibaldmjfmmaaDoorZzFnCliNewSHSplit
namespace Go.Proofs.YthkibaldmjfmmaaDoor.Q
open Go.RowKit Go.Proofs.YthkibaldmjfmmaaDoorW.PrintWords Go.Proofs.YthkibaldmjfmmaaDoorW.PrintLast Go.Proofs.YthkibaldmjfmmaaDoorW.PrintMore
attribute [local go_sem] max2_int min2_int max_two min_two max_three min_three max_four min_four
set_option linter.unusedVariables false
set_option linter.unusedSimpArgs false
def slices_IndexFunc_string_string_at97.l0:Nat→List ByteArray→Int→Int→Option (Int)
 | 0,_,_,_=>none
 | k+1,x0,x7,x8=>if x8 < x7 then (if 0≤x8 then (if x8 < (x0.length:Int) then ((impl_isBody_1.f k (rdOf ByteArray.empty x0 x8)).bind fun t103=>(if t103=true then (some x8) else (slices_IndexFunc_string_string_at97.l0 k x0 x7 (wrap64 (x8+1))))) else (none)) else (none)) else (some (-1))
def slices_IndexFunc_string_string_at97.f (k:Nat) (l0:List ByteArray) :Option (Int):=slices_IndexFunc_string_string_at97.l0 k l0 (l0.length:Int) 0
set_option maxHeartbeats 8000000 in
set_option maxRecDepth 100000 in
theorem slices_IndexFunc_string_string_at97.calls (k:Nat) (A0:Option Addr) (c0:Nat) (l0:List ByteArray)  (r:Int) (w:World) (hr0:Kd.C Kd.string w A0 l0.length l0) (hc0:l0.length≤c0) (h:slices_IndexFunc_string_string_at97.f k l0=some r) :
 Calls Tryd.prog 132 #[.slice A0 l0.length c0,.func (.func 97) #[] #[]] w fun e w'=>e=.returned (.int .i64 r)∧Drawn0 w w':=by
 have HR0:=zA hr0
 have HC0:=zA hc0
 clear hr0 hc0
 have H:(slices_IndexFunc_string_string_at97.l0 k l0 (l0.length:Int) 0)=some r:=h
 clear h
 have H':=zA H
 clear H
 go_enter Tryd.func132,Tryd.ntmps132
 go_wp2
 go_loopg [8] k (fun kq v8 w'=>∃ (x8_1:Int),v8=.int .i64 x8_1∧Aside0 (slices_IndexFunc_string_string_at97.l0 kq l0 (l0.length:Int) x8_1=some r)∧Aside0 (kq≤k)∧Drawn0 w w')
 case atStart=>exact ⟨(0),(by first|rfl|(simp;done)|(simp [*];done)),H',⟨Nat.le_refl _⟩,by repeat (first|exact Drawn0.refl _|apply Drawn0.step)⟩
 case round =>
  clear H'
  try clear p2
  obtain ⟨x8_1,rfl,HA,HK1,⟨m1,rfl⟩⟩:=hrel
  cases gk with
  | zero=>exact absurd HA.out (by simp [slices_IndexFunc_string_string_at97.l0])
  | succ k1 =>
   have H:=HA.out
   clear HA
   simp only [slices_IndexFunc_string_string_at97.l0] at H
   by_cases c3:x8_1 < (l0.length:Int)
   ·rw [if_pos c3] at H
    have c3b0:decide (x8_1 < (l0.length:Int))=true:=decide_eq_true c3
    clear c3
    by_cases c4:0≤x8_1
    ·rw [if_pos c4] at H
     have c4b0:decide (0≤x8_1)=true:=decide_eq_true c4
     clear c4
     by_cases c5:x8_1 < (l0.length:Int)
     ·rw [if_pos c5] at H
      have c5b0:decide (x8_1 < (l0.length:Int))=true:=decide_eq_true c5
      clear c5
      replace H:=Option.bind_eq_some_iff.mp H
      obtain ⟨t103,A60,H⟩:=H
      replace H:(if t103=true then (some x8_1) else (slices_IndexFunc_string_string_at97.l0 k1 l0 (l0.length:Int) (wrap64 (x8_1+1))))=some r:=H
      have A6:=zA A60
      clear A60
      by_cases c7:t103=true
      ·subst c7
       have H1:(some x8_1)=some r:=by rw [if_pos rfl] at H;exact H
       clear H
       have H:=H1
       clear H1
       obtain rfl:=Option.some.inj H
       have p102:0≤(x8_1:Int):=of_decide_eq_true (by first|(with_reducible assumption)|assumption)
       have q102:x8_1 < (l0.length:Int):=of_decide_eq_true (by first|(with_reducible assumption)|assumption)
       obtain ⟨ad102,e102,hx102_0⟩:=Kd.at_string HR0.out x8_1 p102 q102
       cases e102
       replace p102:=eq_true p102
       replace q102:=eq_true q102
       go_wp2_with (first|(go_at_call 97;(with_reducible refine (impl_isBody_1.calls k1 (rdOf ByteArray.empty l0 x8_1) true _ A6.out).mono ?_);rintro e w' ⟨rfl,⟨nd,rfl⟩⟩))
       go_ret
       exact ⟨by first|rfl|(simp;done)|(simp [*];done),by repeat (first|exact Drawn0.refl _|apply Drawn0.step)⟩
      ·replace c7:=Bool.eq_false_iff.mpr c7
       subst c7
       have H1:(slices_IndexFunc_string_string_at97.l0 k1 l0 (l0.length:Int) (wrap64 (x8_1+1)))=some r:=by rw [if_neg (show ¬ (false=true) by decide)] at H;exact H
       clear H
       have H:=H1
       clear H1
       have H':=zA H
       clear H
       have p102:0≤(x8_1:Int):=of_decide_eq_true (by first|(with_reducible assumption)|assumption)
       have q102:x8_1 < (l0.length:Int):=of_decide_eq_true (by first|(with_reducible assumption)|assumption)
       obtain ⟨ad102,e102,hx102_0⟩:=Kd.at_string HR0.out x8_1 p102 q102
       cases e102
       replace p102:=eq_true p102
       replace q102:=eq_true q102
       go_wp2_with (first|(go_at_call 97;(with_reducible refine (impl_isBody_1.calls k1 (rdOf ByteArray.empty l0 x8_1) false _ A6.out).mono ?_);rintro e w' ⟨rfl,⟨nd,rfl⟩⟩))
       go_roundg k1
       case measure=>have:=HK1.out;omega
       case rel=>exact ⟨(wrap64 (x8_1+1)),(by first|rfl|(simp;done)|(simp [*];done)),H',⟨by have:=HK1.out;omega⟩,by repeat (first|exact Drawn0.refl _|apply Drawn0.step)⟩
     ·rw [if_neg c5] at H
      exact absurd H (by simp)
    ·rw [if_neg c4] at H
     exact absurd H (by simp)
   ·rw [if_neg c3] at H
    have c3b0:decide (x8_1 < (l0.length:Int))=false:=decide_eq_false c3
    clear c3
    obtain rfl:=Option.some.inj H
    go_wp2
    go_ret
    exact ⟨by first|rfl|(simp;done)|(simp [*];done),by repeat (first|exact Drawn0.refl _|apply Drawn0.step)⟩
def slices_ContainsFunc_string_string_at97.f (k:Nat) (l0:List ByteArray) :Option (Bool):=(slices_IndexFunc_string_string_at97.f k l0).bind fun t104=>(some (decide (t104≥0)))
set_option maxHeartbeats 8000000 in
set_option maxRecDepth 100000 in
theorem slices_ContainsFunc_string_string_at97.calls (k:Nat) (A0:Option Addr) (c0:Nat) (l0:List ByteArray)  (r:Bool) (w:World) (hr0:Kd.C Kd.string w A0 l0.length l0) (hc0:l0.length≤c0) (h:slices_ContainsFunc_string_string_at97.f k l0=some r) :
 Calls Tryd.prog 96 #[.slice A0 l0.length c0,.func (.func 97) #[] #[]] w fun e w'=>e=.returned (.bool r)∧Drawn0 w w':=by
 have HR0:=zA hr0
 have HC0:=zA hc0
 clear hr0 hc0
 have H:((slices_IndexFunc_string_string_at97.f k l0).bind fun t104=>(some (decide (t104≥0))))=some r:=h
 clear h
 replace H:=Option.bind_eq_some_iff.mp H
 obtain ⟨t104,A30,H⟩:=H
 replace H:(some (decide (t104≥0)))=some r:=H
 have A3:=zA A30
 clear A30
 obtain rfl:=Option.some.inj H
 go_enter Tryd.func96,Tryd.ntmps96
 go_wp2_with (first|((with_reducible refine zq19 (f:=132) rfl ?_);refine goesL_ (some 7) rfl rfl Tryd.func132 (by kernel_rfl) rfl #[.slice A0 l0.length c0,.func (.func 97) #[] #[]] rfl (by (try simp only [zL3,zL4,zL5]);first|done|rfl|(simp only [zL6,zL7];rfl)) ?_;(with_reducible refine (slices_IndexFunc_string_string_at97.calls k _ _ l0  t104 _ ?side1 ?side2 A3.out).mono ?_);(case side1=>repeat (first|exact HR0.out|(with_reducible refine Kd.z0 ?_ _)|(with_reducible refine Kd.z3 ?_ _)|(with_reducible refine Kd.z2 ?_)));(case side2=>exact HC0.out);rintro e w' ⟨rfl,⟨nd,rfl⟩⟩;refine ⟨_,rfl,?_⟩))
 go_ret
 exact ⟨by first|rfl|(simp;done)|(simp [*];done),by repeat (first|exact Drawn0.refl _|apply Drawn0.step)⟩
def impl_isBody.f (k:Nat) (l0:List ByteArray):Option (Bool):=if (l0.length:Int)≤12 then ((slices_ContainsFunc_string_string_at97.f k l0).bind fun t105=>(some (!t105))) else (some false)
set_option maxHeartbeats 8000000 in
set_option maxRecDepth 100000 in
theorem impl_isBody.calls (k:Nat) (A0:Option Addr) (c0:Nat) (l0:List ByteArray) (r:Bool) (w:World) (hr0:Kd.C Kd.string w A0 l0.length l0) (hc0:l0.length≤c0) (h:impl_isBody.f k l0=some r) :
 Calls Tryd.prog 52 #[.slice A0 l0.length c0] w fun e w'=>e=.returned (.bool r)∧Drawn0 w w':=by
 have HR0:=zA hr0
 have HC0:=zA hc0
 clear hr0 hc0
 have H:(if (l0.length:Int)≤12 then ((slices_ContainsFunc_string_string_at97.f k l0).bind fun t105=>(some (!t105))) else (some false))=some r:=h
 clear h
 by_cases c2:(l0.length:Int)≤12
 ·rw [if_pos c2] at H
  have c2b0:decide ((l0.length:Int)≤12)=true:=decide_eq_true c2
  have c2b1:decide (l0.length≤12)=true:=decide_eq_true (by omega)
  clear c2
  replace H:=Option.bind_eq_some_iff.mp H
  obtain ⟨t105,A30,H⟩:=H
  replace H:(some (!t105))=some r:=H
  have A3:=zA A30
  clear A30
  obtain rfl:=Option.some.inj H
  go_enter Tryd.func52,Tryd.ntmps52
  go_wp2_with (first|(go_at_call 96;(with_reducible refine (slices_ContainsFunc_string_string_at97.calls k _ _ l0  t105 _ ?side1 ?side2 A3.out).mono ?_);(case side1=>repeat (first|exact HR0.out|(with_reducible refine Kd.z0 ?_ _)|(with_reducible refine Kd.z3 ?_ _)|(with_reducible refine Kd.z2 ?_)));(case side2=>exact HC0.out);rintro e w' ⟨rfl,⟨nd,rfl⟩⟩))
  go_ret
  exact ⟨by first|rfl|(simp;done)|(simp [*];done),by repeat (first|exact Drawn0.refl _|apply Drawn0.step)⟩
 ·rw [if_neg c2] at H
  have c2b0:decide ((l0.length:Int)≤12)=false:=decide_eq_false c2
  have c2b1:decide (l0.length≤12)=false:=decide_eq_false (by omega)
  clear c2
  obtain rfl:=Option.some.inj H
  go_enter Tryd.func52,Tryd.ntmps52
  go_wp2
  go_ret
  exact ⟨by first|rfl|(simp;done)|(simp [*];done),by repeat (first|exact Drawn0.refl _|apply Drawn0.step)⟩
def impl_MailOk.f (k:Nat) (a0_0:ByteArray) (a0_1:ByteArray) (l0_2:List (S30)) (l0_3:List ByteArray):Option (Bool):=(impl_Addr_sender.f k a0_0 a0_1).bind fun t107=>(if t107=true then ((impl_within.f (l0_2.length:Int) 1 4).bind fun t108=>(if t108=true then ((slices_ContainsFunc_impl_Addr_impl_Addr_at46.f k l0_2).bind fun t109=>(if t109=true then (some false) else ((impl_distinct_impl_Addr.f l0_2).bind fun t110=>(if t110=true then ((impl_isBody.f k l0_3).bind fun t111=>(some t111)) else (some false))))) else (some false))) else (some false))
set_option maxHeartbeats 8000000 in
set_option maxRecDepth 100000 in
theorem impl_MailOk.calls (k:Nat) (a0_0:ByteArray) (a0_1:ByteArray) (A0_2:Option Addr) (c0_2:Nat) (l0_2:List (S30)) (A0_3:Option Addr) (c0_3:Nat) (l0_3:List ByteArray) (r:Bool) (w:World) (hr0_2:Kd.C k30 w A0_2 l0_2.length l0_2) (hc0_2:l0_2.length≤c0_2) (hr0_3:Kd.C Kd.string w A0_3 l0_3.length l0_3) (hc0_3:l0_3.length≤c0_3) (hG:GOK w) (h:impl_MailOk.f k a0_0 a0_1 l0_2 l0_3=some r) :
 Calls Tryd.prog 13 #[.agg #[.string a0_0,.string a0_1,.slice A0_2 l0_2.length c0_2,.slice A0_3 l0_3.length c0_3]] w fun e w'=>e=.returned (.bool r)∧Below w.heap.size w w':=by
 have hu33:=Tryd.underlying33
 have hu30:=Tryd.underlying30
 have HR0_2:=zA hr0_2
 have HC0_2:=zA hc0_2
 clear hr0_2 hc0_2
 have HR0_3:=zA hr0_3
 have HC0_3:=zA hc0_3
 clear hr0_3 hc0_3
 have HG:=zA hG
 clear hG
 have HB:=zA (Below.refl w.heap.size w)
 have H:((impl_Addr_sender.f k a0_0 a0_1).bind fun t107=>(if t107=true then ((impl_within.f (l0_2.length:Int) 1 4).bind fun t108=>(if t108=true then ((slices_ContainsFunc_impl_Addr_impl_Addr_at46.f k l0_2).bind fun t109=>(if t109=true then (some false) else ((impl_distinct_impl_Addr.f l0_2).bind fun t110=>(if t110=true then ((impl_isBody.f k l0_3).bind fun t111=>(some t111)) else (some false))))) else (some false))) else (some false)))=some r:=h
 clear h
 replace H:=Option.bind_eq_some_iff.mp H
 obtain ⟨t107,A20,H⟩:=H
 replace H:(if t107=true then ((impl_within.f (l0_2.length:Int) 1 4).bind fun t108=>(if t108=true then ((slices_ContainsFunc_impl_Addr_impl_Addr_at46.f k l0_2).bind fun t109=>(if t109=true then (some false) else ((impl_distinct_impl_Addr.f l0_2).bind fun t110=>(if t110=true then ((impl_isBody.f k l0_3).bind fun t111=>(some t111)) else (some false))))) else (some false))) else (some false))=some r:=H
 have A2:=zA A20
 clear A20
 by_cases c3:t107=true
 ·subst c3
  have H1:((impl_within.f (l0_2.length:Int) 1 4).bind fun t108=>(if t108=true then ((slices_ContainsFunc_impl_Addr_impl_Addr_at46.f k l0_2).bind fun t109=>(if t109=true then (some false) else ((impl_distinct_impl_Addr.f l0_2).bind fun t110=>(if t110=true then ((impl_isBody.f k l0_3).bind fun t111=>(some t111)) else (some false))))) else (some false)))=some r:=by rw [if_pos rfl] at H;exact H
  clear H
  have H:=H1
  clear H1
  replace H:=Option.bind_eq_some_iff.mp H
  obtain ⟨t108,A40,H⟩:=H
  replace H:(if t108=true then ((slices_ContainsFunc_impl_Addr_impl_Addr_at46.f k l0_2).bind fun t109=>(if t109=true then (some false) else ((impl_distinct_impl_Addr.f l0_2).bind fun t110=>(if t110=true then ((impl_isBody.f k l0_3).bind fun t111=>(some t111)) else (some false))))) else (some false))=some r:=H
  have A4:=zA A40
  clear A40
  by_cases c5:t108=true
  ·subst c5
   have H1:((slices_ContainsFunc_impl_Addr_impl_Addr_at46.f k l0_2).bind fun t109=>(if t109=true then (some false) else ((impl_distinct_impl_Addr.f l0_2).bind fun t110=>(if t110=true then ((impl_isBody.f k l0_3).bind fun t111=>(some t111)) else (some false)))))=some r:=by rw [if_pos rfl] at H;exact H
   clear H
   have H:=H1
   clear H1
   replace H:=Option.bind_eq_some_iff.mp H
   obtain ⟨t109,A60,H⟩:=H
   replace H:(if t109=true then (some false) else ((impl_distinct_impl_Addr.f l0_2).bind fun t110=>(if t110=true then ((impl_isBody.f k l0_3).bind fun t111=>(some t111)) else (some false))))=some r:=H
   have A6:=zA A60
   clear A60
   by_cases c7:t109=true
   ·subst c7
    have H1:(some false)=some r:=by rw [if_pos rfl] at H;exact H
    clear H
    have H:=H1
    clear H1
    obtain rfl:=Option.some.inj H
    go_enter Tryd.func13,Tryd.ntmps13
    go_wp2_with (first|((with_reducible refine zq21 (N:=1) rfl ?_);(try (refine gate_guard (by rfl) ?_;dsimp only));refine zq23 ?hg (N:=1) ?hd (cs:=#[.string a0_0,.string a0_1,.slice A0_2 l0_2.length c0_2,.slice A0_3 l0_3.length c0_3]) (t:=33) ?hr ?_;(case hd=>rfl);(case hg=>rfl);(case hr=>first|(go_simp;done)|(go_simp;rfl));intro gb106 hg w8 hbox hb;have n0_:=zA (zq11 (by repeat (first|(with_reducible first|exact HB.out|apply zq4|apply zq0|apply zq3)|exact HB.out)) hb);have n1_:=zA (hbox);have n2_:=zA ((by rw [hg];exact (zq14 (by repeat (first|(with_reducible first|exact HB.out|apply zq4|apply zq0|apply zq3)|exact HB.out))):w.heap.size≤gb106));have n3_:=zA ((by rw [hg];exact (zq14 (by repeat (first|(with_reducible first|exact HB.out|apply zq4|apply zq0|apply zq3)|exact HB.out))):w.heap.size≤gb106));clear HB;have HB:=n0_;have BK106:=n1_;have GW106:=n2_;have GE106:=n3_;clear n0_ n1_ n2_ n3_;clear hb hbox hg;have hcz9_0:w8.cell? ⟨gb106,0,none⟩=some (.string a0_0):=zq1 BK106.out 0;have hcz9_1:w8.cell? ⟨gb106,1,none⟩=some (.string a0_1):=zq1 BK106.out 1;have hcz9_2:w8.cell? ⟨gb106,2,none⟩=some (.slice A0_2 l0_2.length c0_2):=zq1 BK106.out 2;have hcz9_3:w8.cell? ⟨gb106,3,none⟩=some (.slice A0_3 l0_3.length c0_3):=zq1 BK106.out 3;have hfz9_0:=zq7 BK106.out 0;have hfz9_1:=zq7 BK106.out 1;have hfz9_2:=zq7 BK106.out 2;have hfz9_3:=zq7 BK106.out 3)|((with_reducible refine zq19 (f:=48) rfl ?_);refine goesL_ (some 6) rfl rfl Tryd.func48 (by kernel_rfl) rfl #[.agg #[.string a0_0,.string a0_1]] rfl (by (try simp only [zL3,zL4,zL5]);first|done|rfl|(simp only [zL6,zL7];rfl)) ?_;(with_reducible refine (impl_Addr_sender.calls k a0_0 a0_1 true _ ?side1 A2.out).mono ?_);(case side1=>first|(with_reducible exact HG.out)|((with_reducible repeat (first|exact HG.out|apply GOK.drewN|apply GOK.drew));done)|exact GOK.below HG.out (by repeat (first|(with_reducible first|exact HB.out|apply zq4|apply zq0|apply zq3|refine zq2 ?_ GE106.out)|exact HB.out)));rintro e w10 ⟨rfl,hb⟩;refine ⟨_,rfl,?_⟩;have n0_:=zA (zq13 (by (with_reducible repeat (first|refine zq6 ?_ _|refine zq8 ?_|refine zq5 ?_ _));exact BK106.out) hb);have n1_:=zA (zq11 (by repeat (first|(with_reducible first|exact HB.out|apply zq4|apply zq0|apply zq3|refine zq2 ?_ GE106.out)|exact HB.out)) hb);clear BK106;clear HB;have BK106:=n0_;have HB:=n1_;clear n0_ n1_;(try clear hb);have hcz11_0:w10.cell? ⟨gb106,0,none⟩=some (.string a0_0):=zq1 BK106.out 0;have hcz11_1:w10.cell? ⟨gb106,1,none⟩=some (.string a0_1):=zq1 BK106.out 1;have hcz11_2:w10.cell? ⟨gb106,2,none⟩=some (.slice A0_2 l0_2.length c0_2):=zq1 BK106.out 2;have hcz11_3:w10.cell? ⟨gb106,3,none⟩=some (.slice A0_3 l0_3.length c0_3):=zq1 BK106.out 3;have hfz11_0:=zq7 BK106.out 0;have hfz11_1:=zq7 BK106.out 1;have hfz11_2:=zq7 BK106.out 2;have hfz11_3:=zq7 BK106.out 3)|(go_at_call 49;(with_reducible refine (impl_within.calls (l0_2.length:Int) 1 4 true _ A4.out).mono ?_);rintro e w' ⟨rfl,⟨nd,rfl⟩⟩)|(go_at_call 50;(with_reducible refine (slices_ContainsFunc_impl_Addr_impl_Addr_at46.calls k _ _ l0_2  true _ ?side1 ?side2 ?side3 A6.out).mono ?_);(case side1=>repeat (first|exact (Kd.z1 HR0_2.out (by repeat (first|(with_reducible first|exact HB.out|apply zq4|apply zq0|apply zq3|refine zq2 ?_ GE106.out)|exact HB.out)))|(with_reducible refine Kd.z0 ?_ _)|(with_reducible refine Kd.z3 ?_ _)|(with_reducible refine Kd.z2 ?_)));(case side2=>exact HC0_2.out);(case side3=>first|(with_reducible exact HG.out)|((with_reducible repeat (first|exact HG.out|apply GOK.drewN|apply GOK.drew));done)|exact GOK.below HG.out (by repeat (first|(with_reducible first|exact HB.out|apply zq4|apply zq0|apply zq3|refine zq2 ?_ GE106.out)|exact HB.out)));rintro e w12 ⟨rfl,hb⟩;have n0_:=zA (zq13 (by (with_reducible repeat (first|refine zq6 ?_ _|refine zq8 ?_|refine zq5 ?_ _));exact BK106.out) hb);have n1_:=zA (zq11 (by repeat (first|(with_reducible first|exact HB.out|apply zq4|apply zq0|apply zq3|refine zq2 ?_ GE106.out)|exact HB.out)) hb);clear BK106;clear HB;have BK106:=n0_;have HB:=n1_;clear n0_ n1_;(try clear hb)))
    go_ret
    exact ⟨by first|rfl|(simp [zq16,zq17]<;>rfl)|(simp [*,zq16,zq17]<;>rfl),by repeat (first|(with_reducible first|exact HB.out|apply zq4|apply zq0|apply zq3|refine zq2 ?_ GE106.out)|exact HB.out)⟩
   ·replace c7:=Bool.eq_false_iff.mpr c7
    subst c7
    have H1:((impl_distinct_impl_Addr.f l0_2).bind fun t110=>(if t110=true then ((impl_isBody.f k l0_3).bind fun t111=>(some t111)) else (some false)))=some r:=by rw [if_neg (show ¬ (false=true) by decide)] at H;exact H
    clear H
    have H:=H1
    clear H1
    replace H:=Option.bind_eq_some_iff.mp H
    obtain ⟨t110,A130,H⟩:=H
    replace H:(if t110=true then ((impl_isBody.f k l0_3).bind fun t111=>(some t111)) else (some false))=some r:=H
    have A13:=zA A130
    clear A130
    by_cases c14:t110=true
    ·subst c14
     have H1:((impl_isBody.f k l0_3).bind fun t111=>(some t111))=some r:=by rw [if_pos rfl] at H;exact H
     clear H
     have H:=H1
     clear H1
     replace H:=Option.bind_eq_some_iff.mp H
     obtain ⟨t111,A150,H⟩:=H
     replace H:(some t111)=some r:=H
     have A15:=zA A150
     clear A150
     obtain rfl:=Option.some.inj H
     go_enter Tryd.func13,Tryd.ntmps13
     go_wp2_with (first|((with_reducible refine zq21 (N:=1) rfl ?_);(try (refine gate_guard (by rfl) ?_;dsimp only));refine zq23 ?hg (N:=1) ?hd (cs:=#[.string a0_0,.string a0_1,.slice A0_2 l0_2.length c0_2,.slice A0_3 l0_3.length c0_3]) (t:=33) ?hr ?_;(case hd=>rfl);(case hg=>rfl);(case hr=>first|(go_simp;done)|(go_simp;rfl));intro gb106 hg w16 hbox hb;have n0_:=zA (zq11 (by repeat (first|(with_reducible first|exact HB.out|apply zq4|apply zq0|apply zq3)|exact HB.out)) hb);have n1_:=zA (hbox);have n2_:=zA ((by rw [hg];exact (zq14 (by repeat (first|(with_reducible first|exact HB.out|apply zq4|apply zq0|apply zq3)|exact HB.out))):w.heap.size≤gb106));have n3_:=zA ((by rw [hg];exact (zq14 (by repeat (first|(with_reducible first|exact HB.out|apply zq4|apply zq0|apply zq3)|exact HB.out))):w.heap.size≤gb106));clear HB;have HB:=n0_;have BK106:=n1_;have GW106:=n2_;have GE106:=n3_;clear n0_ n1_ n2_ n3_;clear hb hbox hg;have hcz17_0:w16.cell? ⟨gb106,0,none⟩=some (.string a0_0):=zq1 BK106.out 0;have hcz17_1:w16.cell? ⟨gb106,1,none⟩=some (.string a0_1):=zq1 BK106.out 1;have hcz17_2:w16.cell? ⟨gb106,2,none⟩=some (.slice A0_2 l0_2.length c0_2):=zq1 BK106.out 2;have hcz17_3:w16.cell? ⟨gb106,3,none⟩=some (.slice A0_3 l0_3.length c0_3):=zq1 BK106.out 3;have hfz17_0:=zq7 BK106.out 0;have hfz17_1:=zq7 BK106.out 1;have hfz17_2:=zq7 BK106.out 2;have hfz17_3:=zq7 BK106.out 3)|((with_reducible refine zq19 (f:=48) rfl ?_);refine goesL_ (some 6) rfl rfl Tryd.func48 (by kernel_rfl) rfl #[.agg #[.string a0_0,.string a0_1]] rfl (by (try simp only [zL3,zL4,zL5]);first|done|rfl|(simp only [zL6,zL7];rfl)) ?_;(with_reducible refine (impl_Addr_sender.calls k a0_0 a0_1 true _ ?side1 A2.out).mono ?_);(case side1=>first|(with_reducible exact HG.out)|((with_reducible repeat (first|exact HG.out|apply GOK.drewN|apply GOK.drew));done)|exact GOK.below HG.out (by repeat (first|(with_reducible first|exact HB.out|apply zq4|apply zq0|apply zq3|refine zq2 ?_ GE106.out)|exact HB.out)));rintro e w18 ⟨rfl,hb⟩;refine ⟨_,rfl,?_⟩;have n0_:=zA (zq13 (by (with_reducible repeat (first|refine zq6 ?_ _|refine zq8 ?_|refine zq5 ?_ _));exact BK106.out) hb);have n1_:=zA (zq11 (by repeat (first|(with_reducible first|exact HB.out|apply zq4|apply zq0|apply zq3|refine zq2 ?_ GE106.out)|exact HB.out)) hb);clear BK106;clear HB;have BK106:=n0_;have HB:=n1_;clear n0_ n1_;(try clear hb);have hcz19_0:w18.cell? ⟨gb106,0,none⟩=some (.string a0_0):=zq1 BK106.out 0;have hcz19_1:w18.cell? ⟨gb106,1,none⟩=some (.string a0_1):=zq1 BK106.out 1;have hcz19_2:w18.cell? ⟨gb106,2,none⟩=some (.slice A0_2 l0_2.length c0_2):=zq1 BK106.out 2;have hcz19_3:w18.cell? ⟨gb106,3,none⟩=some (.slice A0_3 l0_3.length c0_3):=zq1 BK106.out 3;have hfz19_0:=zq7 BK106.out 0;have hfz19_1:=zq7 BK106.out 1;have hfz19_2:=zq7 BK106.out 2;have hfz19_3:=zq7 BK106.out 3)|(go_at_call 49;(with_reducible refine (impl_within.calls (l0_2.length:Int) 1 4 true _ A4.out).mono ?_);rintro e w' ⟨rfl,⟨nd,rfl⟩⟩)|(go_at_call 50;(with_reducible refine (slices_ContainsFunc_impl_Addr_impl_Addr_at46.calls k _ _ l0_2  false _ ?side1 ?side2 ?side3 A6.out).mono ?_);(case side1=>repeat (first|exact (Kd.z1 HR0_2.out (by repeat (first|(with_reducible first|exact HB.out|apply zq4|apply zq0|apply zq3|refine zq2 ?_ GE106.out)|exact HB.out)))|(with_reducible refine Kd.z0 ?_ _)|(with_reducible refine Kd.z3 ?_ _)|(with_reducible refine Kd.z2 ?_)));(case side2=>exact HC0_2.out);(case side3=>first|(with_reducible exact HG.out)|((with_reducible repeat (first|exact HG.out|apply GOK.drewN|apply GOK.drew));done)|exact GOK.below HG.out (by repeat (first|(with_reducible first|exact HB.out|apply zq4|apply zq0|apply zq3|refine zq2 ?_ GE106.out)|exact HB.out)));rintro e w20 ⟨rfl,hb⟩;have n0_:=zA (zq13 (by (with_reducible repeat (first|refine zq6 ?_ _|refine zq8 ?_|refine zq5 ?_ _));exact BK106.out) hb);have n1_:=zA (zq11 (by repeat (first|(with_reducible first|exact HB.out|apply zq4|apply zq0|apply zq3|refine zq2 ?_ GE106.out)|exact HB.out)) hb);clear BK106;clear HB;have BK106:=n0_;have HB:=n1_;clear n0_ n1_;(try clear hb);have hcz21_0:w20.cell? ⟨gb106,0,none⟩=some (.string a0_0):=zq1 BK106.out 0;have hcz21_1:w20.cell? ⟨gb106,1,none⟩=some (.string a0_1):=zq1 BK106.out 1;have hcz21_2:w20.cell? ⟨gb106,2,none⟩=some (.slice A0_2 l0_2.length c0_2):=zq1 BK106.out 2;have hcz21_3:w20.cell? ⟨gb106,3,none⟩=some (.slice A0_3 l0_3.length c0_3):=zq1 BK106.out 3;have hfz21_0:=zq7 BK106.out 0;have hfz21_1:=zq7 BK106.out 1;have hfz21_2:=zq7 BK106.out 2;have hfz21_3:=zq7 BK106.out 3)|(go_at_call 51;(with_reducible refine (impl_distinct_impl_Addr.calls _ _ l0_2 true _ ?side1 ?side2 A13.out).mono ?_);(case side1=>repeat (first|exact (Kd.z1 HR0_2.out HB.out)|(with_reducible refine Kd.z0 ?_ _)|(with_reducible refine Kd.z3 ?_ _)|(with_reducible refine Kd.z2 ?_)));(case side2=>exact HC0_2.out);rintro e w22 ⟨rfl,hb⟩;have n0_:=zA (zq13 (by (with_reducible repeat (first|refine zq6 ?_ _|refine zq8 ?_|refine zq5 ?_ _));exact BK106.out) hb);have n1_:=zA (zq11 (by repeat (first|(with_reducible first|exact HB.out|apply zq4|apply zq0|apply zq3|refine zq2 ?_ GE106.out)|exact HB.out)) hb);clear BK106;clear HB;have BK106:=n0_;have HB:=n1_;clear n0_ n1_;(try clear hb);have hcz23_0:w22.cell? ⟨gb106,0,none⟩=some (.string a0_0):=zq1 BK106.out 0;have hcz23_1:w22.cell? ⟨gb106,1,none⟩=some (.string a0_1):=zq1 BK106.out 1;have hcz23_2:w22.cell? ⟨gb106,2,none⟩=some (.slice A0_2 l0_2.length c0_2):=zq1 BK106.out 2;have hcz23_3:w22.cell? ⟨gb106,3,none⟩=some (.slice A0_3 l0_3.length c0_3):=zq1 BK106.out 3;have hfz23_0:=zq7 BK106.out 0;have hfz23_1:=zq7 BK106.out 1;have hfz23_2:=zq7 BK106.out 2;have hfz23_3:=zq7 BK106.out 3)|(go_at_call 52;(with_reducible refine (impl_isBody.calls k _ _ l0_3 t111 _ ?side1 ?side2 A15.out).mono ?_);(case side1=>repeat (first|exact (Kd.z1 HR0_3.out HB.out)|(with_reducible refine Kd.z0 ?_ _)|(with_reducible refine Kd.z3 ?_ _)|(with_reducible refine Kd.z2 ?_)));(case side2=>exact HC0_3.out);rintro e w' ⟨rfl,⟨nd,rfl⟩⟩))
     go_ret
     exact ⟨by first|rfl|(simp [zq16,zq17]<;>rfl)|(simp [*,zq16,zq17]<;>rfl),by repeat (first|(with_reducible first|exact HB.out|apply zq4|apply zq0|apply zq3|refine zq2 ?_ GE106.out)|exact HB.out)⟩
    ·replace c14:=Bool.eq_false_iff.mpr c14
     subst c14
     have H1:(some false)=some r:=by rw [if_neg (show ¬ (false=true) by decide)] at H;exact H
     clear H
     have H:=H1
     clear H1
     obtain rfl:=Option.some.inj H
     go_enter Tryd.func13,Tryd.ntmps13
     go_wp2_with (first|((with_reducible refine zq21 (N:=1) rfl ?_);(try (refine gate_guard (by rfl) ?_;dsimp only));refine zq23 ?hg (N:=1) ?hd (cs:=#[.string a0_0,.string a0_1,.slice A0_2 l0_2.length c0_2,.slice A0_3 l0_3.length c0_3]) (t:=33) ?hr ?_;(case hd=>rfl);(case hg=>rfl);(case hr=>first|(go_simp;done)|(go_simp;rfl));intro gb106 hg w24 hbox hb;have n0_:=zA (zq11 (by repeat (first|(with_reducible first|exact HB.out|apply zq4|apply zq0|apply zq3)|exact HB.out)) hb);have n1_:=zA (hbox);have n2_:=zA ((by rw [hg];exact (zq14 (by repeat (first|(with_reducible first|exact HB.out|apply zq4|apply zq0|apply zq3)|exact HB.out))):w.heap.size≤gb106));have n3_:=zA ((by rw [hg];exact (zq14 (by repeat (first|(with_reducible first|exact HB.out|apply zq4|apply zq0|apply zq3)|exact HB.out))):w.heap.size≤gb106));clear HB;have HB:=n0_;have BK106:=n1_;have GW106:=n2_;have GE106:=n3_;clear n0_ n1_ n2_ n3_;clear hb hbox hg;have hcz25_0:w24.cell? ⟨gb106,0,none⟩=some (.string a0_0):=zq1 BK106.out 0;have hcz25_1:w24.cell? ⟨gb106,1,none⟩=some (.string a0_1):=zq1 BK106.out 1;have hcz25_2:w24.cell? ⟨gb106,2,none⟩=some (.slice A0_2 l0_2.length c0_2):=zq1 BK106.out 2;have hcz25_3:w24.cell? ⟨gb106,3,none⟩=some (.slice A0_3 l0_3.length c0_3):=zq1 BK106.out 3;have hfz25_0:=zq7 BK106.out 0;have hfz25_1:=zq7 BK106.out 1;have hfz25_2:=zq7 BK106.out 2;have hfz25_3:=zq7 BK106.out 3)|((with_reducible refine zq19 (f:=48) rfl ?_);refine goesL_ (some 6) rfl rfl Tryd.func48 (by kernel_rfl) rfl #[.agg #[.string a0_0,.string a0_1]] rfl (by (try simp only [zL3,zL4,zL5]);first|done|rfl|(simp only [zL6,zL7];rfl)) ?_;(with_reducible refine (impl_Addr_sender.calls k a0_0 a0_1 true _ ?side1 A2.out).mono ?_);(case side1=>first|(with_reducible exact HG.out)|((with_reducible repeat (first|exact HG.out|apply GOK.drewN|apply GOK.drew));done)|exact GOK.below HG.out (by repeat (first|(with_reducible first|exact HB.out|apply zq4|apply zq0|apply zq3|refine zq2 ?_ GE106.out)|exact HB.out)));rintro e w26 ⟨rfl,hb⟩;refine ⟨_,rfl,?_⟩;have n0_:=zA (zq13 (by (with_reducible repeat (first|refine zq6 ?_ _|refine zq8 ?_|refine zq5 ?_ _));exact BK106.out) hb);have n1_:=zA (zq11 (by repeat (first|(with_reducible first|exact HB.out|apply zq4|apply zq0|apply zq3|refine zq2 ?_ GE106.out)|exact HB.out)) hb);clear BK106;clear HB;have BK106:=n0_;have HB:=n1_;clear n0_ n1_;(try clear hb);have hcz27_0:w26.cell? ⟨gb106,0,none⟩=some (.string a0_0):=zq1 BK106.out 0;have hcz27_1:w26.cell? ⟨gb106,1,none⟩=some (.string a0_1):=zq1 BK106.out 1;have hcz27_2:w26.cell? ⟨gb106,2,none⟩=some (.slice A0_2 l0_2.length c0_2):=zq1 BK106.out 2;have hcz27_3:w26.cell? ⟨gb106,3,none⟩=some (.slice A0_3 l0_3.length c0_3):=zq1 BK106.out 3;have hfz27_0:=zq7 BK106.out 0;have hfz27_1:=zq7 BK106.out 1;have hfz27_2:=zq7 BK106.out 2;have hfz27_3:=zq7 BK106.out 3)|(go_at_call 49;(with_reducible refine (impl_within.calls (l0_2.length:Int) 1 4 true _ A4.out).mono ?_);rintro e w' ⟨rfl,⟨nd,rfl⟩⟩)|(go_at_call 50;(with_reducible refine (slices_ContainsFunc_impl_Addr_impl_Addr_at46.calls k _ _ l0_2  false _ ?side1 ?side2 ?side3 A6.out).mono ?_);(case side1=>repeat (first|exact (Kd.z1 HR0_2.out (by repeat (first|(with_reducible first|exact HB.out|apply zq4|apply zq0|apply zq3|refine zq2 ?_ GE106.out)|exact HB.out)))|(with_reducible refine Kd.z0 ?_ _)|(with_reducible refine Kd.z3 ?_ _)|(with_reducible refine Kd.z2 ?_)));(case side2=>exact HC0_2.out);(case side3=>first|(with_reducible exact HG.out)|((with_reducible repeat (first|exact HG.out|apply GOK.drewN|apply GOK.drew));done)|exact GOK.below HG.out (by repeat (first|(with_reducible first|exact HB.out|apply zq4|apply zq0|apply zq3|refine zq2 ?_ GE106.out)|exact HB.out)));rintro e w28 ⟨rfl,hb⟩;have n0_:=zA (zq13 (by (with_reducible repeat (first|refine zq6 ?_ _|refine zq8 ?_|refine zq5 ?_ _));exact BK106.out) hb);have n1_:=zA (zq11 (by repeat (first|(with_reducible first|exact HB.out|apply zq4|apply zq0|apply zq3|refine zq2 ?_ GE106.out)|exact HB.out)) hb);clear BK106;clear HB;have BK106:=n0_;have HB:=n1_;clear n0_ n1_;(try clear hb);have hcz29_0:w28.cell? ⟨gb106,0,none⟩=some (.string a0_0):=zq1 BK106.out 0;have hcz29_1:w28.cell? ⟨gb106,1,none⟩=some (.string a0_1):=zq1 BK106.out 1;have hcz29_2:w28.cell? ⟨gb106,2,none⟩=some (.slice A0_2 l0_2.length c0_2):=zq1 BK106.out 2;have hcz29_3:w28.cell? ⟨gb106,3,none⟩=some (.slice A0_3 l0_3.length c0_3):=zq1 BK106.out 3;have hfz29_0:=zq7 BK106.out 0;have hfz29_1:=zq7 BK106.out 1;have hfz29_2:=zq7 BK106.out 2;have hfz29_3:=zq7 BK106.out 3)|(go_at_call 51;(with_reducible refine (impl_distinct_impl_Addr.calls _ _ l0_2 false _ ?side1 ?side2 A13.out).mono ?_);(case side1=>repeat (first|exact (Kd.z1 HR0_2.out HB.out)|(with_reducible refine Kd.z0 ?_ _)|(with_reducible refine Kd.z3 ?_ _)|(with_reducible refine Kd.z2 ?_)));(case side2=>exact HC0_2.out);rintro e w30 ⟨rfl,hb⟩;have n0_:=zA (zq13 (by (with_reducible repeat (first|refine zq6 ?_ _|refine zq8 ?_|refine zq5 ?_ _));exact BK106.out) hb);have n1_:=zA (zq11 (by repeat (first|(with_reducible first|exact HB.out|apply zq4|apply zq0|apply zq3|refine zq2 ?_ GE106.out)|exact HB.out)) hb);clear BK106;clear HB;have BK106:=n0_;have HB:=n1_;clear n0_ n1_;(try clear hb)))
     go_ret
     exact ⟨by first|rfl|(simp [zq16,zq17]<;>rfl)|(simp [*,zq16,zq17]<;>rfl),by repeat (first|(with_reducible first|exact HB.out|apply zq4|apply zq0|apply zq3|refine zq2 ?_ GE106.out)|exact HB.out)⟩
  ·replace c5:=Bool.eq_false_iff.mpr c5
   subst c5
   have H1:(some false)=some r:=by rw [if_neg (show ¬ (false=true) by decide)] at H;exact H
   clear H
   have H:=H1
   clear H1
   obtain rfl:=Option.some.inj H
   go_enter Tryd.func13,Tryd.ntmps13
   go_wp2_with (first|((with_reducible refine zq21 (N:=1) rfl ?_);(try (refine gate_guard (by rfl) ?_;dsimp only));refine zq23 ?hg (N:=1) ?hd (cs:=#[.string a0_0,.string a0_1,.slice A0_2 l0_2.length c0_2,.slice A0_3 l0_3.length c0_3]) (t:=33) ?hr ?_;(case hd=>rfl);(case hg=>rfl);(case hr=>first|(go_simp;done)|(go_simp;rfl));intro gb106 hg w31 hbox hb;have n0_:=zA (zq11 (by repeat (first|(with_reducible first|exact HB.out|apply zq4|apply zq0|apply zq3)|exact HB.out)) hb);have n1_:=zA (hbox);have n2_:=zA ((by rw [hg];exact (zq14 (by repeat (first|(with_reducible first|exact HB.out|apply zq4|apply zq0|apply zq3)|exact HB.out))):w.heap.size≤gb106));have n3_:=zA ((by rw [hg];exact (zq14 (by repeat (first|(with_reducible first|exact HB.out|apply zq4|apply zq0|apply zq3)|exact HB.out))):w.heap.size≤gb106));clear HB;have HB:=n0_;have BK106:=n1_;have GW106:=n2_;have GE106:=n3_;clear n0_ n1_ n2_ n3_;clear hb hbox hg;have hcz32_0:w31.cell? ⟨gb106,0,none⟩=some (.string a0_0):=zq1 BK106.out 0;have hcz32_1:w31.cell? ⟨gb106,1,none⟩=some (.string a0_1):=zq1 BK106.out 1;have hcz32_2:w31.cell? ⟨gb106,2,none⟩=some (.slice A0_2 l0_2.length c0_2):=zq1 BK106.out 2;have hcz32_3:w31.cell? ⟨gb106,3,none⟩=some (.slice A0_3 l0_3.length c0_3):=zq1 BK106.out 3;have hfz32_0:=zq7 BK106.out 0;have hfz32_1:=zq7 BK106.out 1;have hfz32_2:=zq7 BK106.out 2;have hfz32_3:=zq7 BK106.out 3)|((with_reducible refine zq19 (f:=48) rfl ?_);refine goesL_ (some 6) rfl rfl Tryd.func48 (by kernel_rfl) rfl #[.agg #[.string a0_0,.string a0_1]] rfl (by (try simp only [zL3,zL4,zL5]);first|done|rfl|(simp only [zL6,zL7];rfl)) ?_;(with_reducible refine (impl_Addr_sender.calls k a0_0 a0_1 true _ ?side1 A2.out).mono ?_);(case side1=>first|(with_reducible exact HG.out)|((with_reducible repeat (first|exact HG.out|apply GOK.drewN|apply GOK.drew));done)|exact GOK.below HG.out (by repeat (first|(with_reducible first|exact HB.out|apply zq4|apply zq0|apply zq3|refine zq2 ?_ GE106.out)|exact HB.out)));rintro e w33 ⟨rfl,hb⟩;refine ⟨_,rfl,?_⟩;have n0_:=zA (zq13 (by (with_reducible repeat (first|refine zq6 ?_ _|refine zq8 ?_|refine zq5 ?_ _));exact BK106.out) hb);have n1_:=zA (zq11 (by repeat (first|(with_reducible first|exact HB.out|apply zq4|apply zq0|apply zq3|refine zq2 ?_ GE106.out)|exact HB.out)) hb);clear BK106;clear HB;have BK106:=n0_;have HB:=n1_;clear n0_ n1_;(try clear hb);have hcz34_0:w33.cell? ⟨gb106,0,none⟩=some (.string a0_0):=zq1 BK106.out 0;have hcz34_1:w33.cell? ⟨gb106,1,none⟩=some (.string a0_1):=zq1 BK106.out 1;have hcz34_2:w33.cell? ⟨gb106,2,none⟩=some (.slice A0_2 l0_2.length c0_2):=zq1 BK106.out 2;have hcz34_3:w33.cell? ⟨gb106,3,none⟩=some (.slice A0_3 l0_3.length c0_3):=zq1 BK106.out 3;have hfz34_0:=zq7 BK106.out 0;have hfz34_1:=zq7 BK106.out 1;have hfz34_2:=zq7 BK106.out 2;have hfz34_3:=zq7 BK106.out 3)|(go_at_call 49;(with_reducible refine (impl_within.calls (l0_2.length:Int) 1 4 false _ A4.out).mono ?_);rintro e w' ⟨rfl,⟨nd,rfl⟩⟩))
   go_ret
   exact ⟨by first|rfl|(simp [zq16,zq17]<;>rfl)|(simp [*,zq16,zq17]<;>rfl),by repeat (first|(with_reducible first|exact HB.out|apply zq4|apply zq0|apply zq3|refine zq2 ?_ GE106.out)|exact HB.out)⟩
 ·replace c3:=Bool.eq_false_iff.mpr c3
  subst c3
  have H1:(some false)=some r:=by rw [if_neg (show ¬ (false=true) by decide)] at H;exact H
  clear H
  have H:=H1
  clear H1
  obtain rfl:=Option.some.inj H
  go_enter Tryd.func13,Tryd.ntmps13
  go_wp2_with (first|((with_reducible refine zq21 (N:=1) rfl ?_);(try (refine gate_guard (by rfl) ?_;dsimp only));refine zq23 ?hg (N:=1) ?hd (cs:=#[.string a0_0,.string a0_1,.slice A0_2 l0_2.length c0_2,.slice A0_3 l0_3.length c0_3]) (t:=33) ?hr ?_;(case hd=>rfl);(case hg=>rfl);(case hr=>first|(go_simp;done)|(go_simp;rfl));intro gb106 hg w35 hbox hb;have n0_:=zA (zq11 (by repeat (first|(with_reducible first|exact HB.out|apply zq4|apply zq0|apply zq3)|exact HB.out)) hb);have n1_:=zA (hbox);have n2_:=zA ((by rw [hg];exact (zq14 (by repeat (first|(with_reducible first|exact HB.out|apply zq4|apply zq0|apply zq3)|exact HB.out))):w.heap.size≤gb106));have n3_:=zA ((by rw [hg];exact (zq14 (by repeat (first|(with_reducible first|exact HB.out|apply zq4|apply zq0|apply zq3)|exact HB.out))):w.heap.size≤gb106));clear HB;have HB:=n0_;have BK106:=n1_;have GW106:=n2_;have GE106:=n3_;clear n0_ n1_ n2_ n3_;clear hb hbox hg;have hcz36_0:w35.cell? ⟨gb106,0,none⟩=some (.string a0_0):=zq1 BK106.out 0;have hcz36_1:w35.cell? ⟨gb106,1,none⟩=some (.string a0_1):=zq1 BK106.out 1;have hcz36_2:w35.cell? ⟨gb106,2,none⟩=some (.slice A0_2 l0_2.length c0_2):=zq1 BK106.out 2;have hcz36_3:w35.cell? ⟨gb106,3,none⟩=some (.slice A0_3 l0_3.length c0_3):=zq1 BK106.out 3;have hfz36_0:=zq7 BK106.out 0;have hfz36_1:=zq7 BK106.out 1;have hfz36_2:=zq7 BK106.out 2;have hfz36_3:=zq7 BK106.out 3)|((with_reducible refine zq19 (f:=48) rfl ?_);refine goesL_ (some 6) rfl rfl Tryd.func48 (by kernel_rfl) rfl #[.agg #[.string a0_0,.string a0_1]] rfl (by (try simp only [zL3,zL4,zL5]);first|done|rfl|(simp only [zL6,zL7];rfl)) ?_;(with_reducible refine (impl_Addr_sender.calls k a0_0 a0_1 false _ ?side1 A2.out).mono ?_);(case side1=>first|(with_reducible exact HG.out)|((with_reducible repeat (first|exact HG.out|apply GOK.drewN|apply GOK.drew));done)|exact GOK.below HG.out (by repeat (first|(with_reducible first|exact HB.out|apply zq4|apply zq0|apply zq3|refine zq2 ?_ GE106.out)|exact HB.out)));rintro e w37 ⟨rfl,hb⟩;refine ⟨_,rfl,?_⟩;have n0_:=zA (zq13 (by (with_reducible repeat (first|refine zq6 ?_ _|refine zq8 ?_|refine zq5 ?_ _));exact BK106.out) hb);have n1_:=zA (zq11 (by repeat (first|(with_reducible first|exact HB.out|apply zq4|apply zq0|apply zq3|refine zq2 ?_ GE106.out)|exact HB.out)) hb);clear BK106;clear HB;have BK106:=n0_;have HB:=n1_;clear n0_ n1_;(try clear hb)))
  go_ret
  exact ⟨by first|rfl|(simp [zq16,zq17]<;>rfl)|(simp [*,zq16,zq17]<;>rfl),by repeat (first|(with_reducible first|exact HB.out|apply zq4|apply zq0|apply zq3|refine zq2 ?_ GE106.out)|exact HB.out)⟩
def impl_CliOk_1.f (a0:Int):Option (Bool):=(impl_within.f a0 0 4).bind fun t101=>(some (!t101))
set_option maxHeartbeats 8000000 in
set_option maxRecDepth 100000 in
theorem impl_CliOk_1.calls (a0:Int) (r:Bool) (w:World) (h:impl_CliOk_1.f a0=some r) :
 Calls Tryd.prog 76 #[.int .i64 a0] w fun e w'=>e=.returned (.bool r)∧Drawn0 w w':=by
 have H:((impl_within.f a0 0 4).bind fun t101=>(some (!t101)))=some r:=h
 clear h
 replace H:=Option.bind_eq_some_iff.mp H
 obtain ⟨t101,A20,H⟩:=H
 replace H:(some (!t101))=some r:=H
 have A2:=zA A20
 clear A20
 obtain rfl:=Option.some.inj H
 go_enter Tryd.func76,Tryd.ntmps76
 go_wp2_with (first|((with_reducible refine zq19 (f:=49) rfl ?_);refine goesL_ (some 4) rfl rfl Tryd.func49 (by kernel_rfl) rfl #[.int .i64 a0,.int .i64 0,.int .i64 4] rfl (by (try simp only [zL3,zL4,zL5]);first|done|rfl|(simp only [zL6,zL7];rfl)) ?_;(with_reducible refine (impl_within.calls a0 0 4 t101 _ A2.out).mono ?_);rintro e w' ⟨rfl,⟨nd,rfl⟩⟩;refine ⟨_,rfl,?_⟩))
 go_ret
 exact ⟨by first|rfl|(simp;done)|(simp [*];done),by repeat (first|exact Drawn0.refl _|apply Drawn0.step)⟩
def slices_IndexFunc_int_int_at76.l0:Nat→List Int→Int→Int→Option (Int)
 | 0,_,_,_=>none
 | k+1,x0,x7,x8=>if x8 < x7 then (if 0≤x8 then (if x8 < (x0.length:Int) then ((impl_CliOk_1.f (rd x0 x8)).bind fun t103=>(if t103=true then (some x8) else (slices_IndexFunc_int_int_at76.l0 k x0 x7 (wrap64 (x8+1))))) else (none)) else (none)) else (some (-1))
def slices_IndexFunc_int_int_at76.f (k:Nat) (l0:List Int) :Option (Int):=slices_IndexFunc_int_int_at76.l0 k l0 (l0.length:Int) 0
set_option maxHeartbeats 8000000 in
set_option maxRecDepth 100000 in
theorem slices_IndexFunc_int_int_at76.calls (k:Nat) (A0:Option Addr) (c0:Nat) (l0:List Int)  (r:Int) (w:World) (hr0:Kd.C (Kd.int .i64) w A0 l0.length l0) (hc0:l0.length≤c0) (h:slices_IndexFunc_int_int_at76.f k l0=some r) :
 Calls Tryd.prog 111 #[.slice A0 l0.length c0,.func (.func 76) #[] #[]] w fun e w'=>e=.returned (.int .i64 r)∧Drawn0 w w':=by
 have HR0:=zA hr0
 have HC0:=zA hc0
 clear hr0 hc0
 have H:(slices_IndexFunc_int_int_at76.l0 k l0 (l0.length:Int) 0)=some r:=h
 clear h
 have H':=zA H
 clear H
 go_enter Tryd.func111,Tryd.ntmps111
 go_wp2
 go_loopg [8] k (fun kq v8 w'=>∃ (x8_1:Int),v8=.int .i64 x8_1∧Aside0 (slices_IndexFunc_int_int_at76.l0 kq l0 (l0.length:Int) x8_1=some r)∧Aside0 (kq≤k)∧Drawn0 w w')
 case atStart=>exact ⟨(0),(by first|rfl|(simp;done)|(simp [*];done)),H',⟨Nat.le_refl _⟩,by repeat (first|exact Drawn0.refl _|apply Drawn0.step)⟩
 case round =>
  clear H'
  try clear p2
  obtain ⟨x8_1,rfl,HA,HK1,⟨m1,rfl⟩⟩:=hrel
  cases gk with
  | zero=>exact absurd HA.out (by simp [slices_IndexFunc_int_int_at76.l0])
  | succ k1 =>
   have H:=HA.out
   clear HA
   simp only [slices_IndexFunc_int_int_at76.l0] at H
   by_cases c3:x8_1 < (l0.length:Int)
   ·rw [if_pos c3] at H
    have c3b0:decide (x8_1 < (l0.length:Int))=true:=decide_eq_true c3
    clear c3
    by_cases c4:0≤x8_1
    ·rw [if_pos c4] at H
     have c4b0:decide (0≤x8_1)=true:=decide_eq_true c4
     clear c4
     by_cases c5:x8_1 < (l0.length:Int)
     ·rw [if_pos c5] at H
      have c5b0:decide (x8_1 < (l0.length:Int))=true:=decide_eq_true c5
      clear c5
      replace H:=Option.bind_eq_some_iff.mp H
      obtain ⟨t103,A60,H⟩:=H
      replace H:(if t103=true then (some x8_1) else (slices_IndexFunc_int_int_at76.l0 k1 l0 (l0.length:Int) (wrap64 (x8_1+1))))=some r:=H
      have A6:=zA A60
      clear A60
      by_cases c7:t103=true
      ·subst c7
       have H1:(some x8_1)=some r:=by rw [if_pos rfl] at H;exact H
       clear H
       have H:=H1
       clear H1
       obtain rfl:=Option.some.inj H
       have p102:0≤(x8_1:Int):=of_decide_eq_true (by first|(with_reducible assumption)|assumption)
       have q102:x8_1 < (l0.length:Int):=of_decide_eq_true (by first|(with_reducible assumption)|assumption)
       obtain ⟨ad102,e102,hx102_0⟩:=Kd.at_int HR0.out x8_1 p102 q102
       cases e102
       replace p102:=eq_true p102
       replace q102:=eq_true q102
       go_wp2_with (first|(go_at_call 76;(with_reducible refine (impl_CliOk_1.calls (rd l0 x8_1) true _ A6.out).mono ?_);rintro e w' ⟨rfl,⟨nd,rfl⟩⟩))
       go_ret
       exact ⟨by first|rfl|(simp;done)|(simp [*];done),by repeat (first|exact Drawn0.refl _|apply Drawn0.step)⟩
      ·replace c7:=Bool.eq_false_iff.mpr c7
       subst c7
       have H1:(slices_IndexFunc_int_int_at76.l0 k1 l0 (l0.length:Int) (wrap64 (x8_1+1)))=some r:=by rw [if_neg (show ¬ (false=true) by decide)] at H;exact H
       clear H
       have H:=H1
       clear H1
       have H':=zA H
       clear H
       have p102:0≤(x8_1:Int):=of_decide_eq_true (by first|(with_reducible assumption)|assumption)
       have q102:x8_1 < (l0.length:Int):=of_decide_eq_true (by first|(with_reducible assumption)|assumption)
       obtain ⟨ad102,e102,hx102_0⟩:=Kd.at_int HR0.out x8_1 p102 q102
       cases e102
       replace p102:=eq_true p102
       replace q102:=eq_true q102
       go_wp2_with (first|(go_at_call 76;(with_reducible refine (impl_CliOk_1.calls (rd l0 x8_1) false _ A6.out).mono ?_);rintro e w' ⟨rfl,⟨nd,rfl⟩⟩))
       go_roundg k1
       case measure=>have:=HK1.out;omega
       case rel=>exact ⟨(wrap64 (x8_1+1)),(by first|rfl|(simp;done)|(simp [*];done)),H',⟨by have:=HK1.out;omega⟩,by repeat (first|exact Drawn0.refl _|apply Drawn0.step)⟩
     ·rw [if_neg c5] at H
      exact absurd H (by simp)
    ·rw [if_neg c4] at H
     exact absurd H (by simp)
   ·rw [if_neg c3] at H
    have c3b0:decide (x8_1 < (l0.length:Int))=false:=decide_eq_false c3
    clear c3
    obtain rfl:=Option.some.inj H
    go_wp2
    go_ret
    exact ⟨by first|rfl|(simp;done)|(simp [*];done),by repeat (first|exact Drawn0.refl _|apply Drawn0.step)⟩
end Go.Proofs.YthkibaldmjfmmaaDoor.Q
