/- Of a text of ours what this claim needs. -/
import Derived.Test.YthkibaldmjfmmaaDoorZzFnCliNewSQ0
namespace Go.Proofs.YthkibaldmjfmmaaDoor.Q
open Go.RowKit Go.Proofs.YthkibaldmjfmmaaDoorW.PrintWords Go.Proofs.YthkibaldmjfmmaaDoorW.PrintLast Go.Proofs.YthkibaldmjfmmaaDoorW.PrintMore
attribute [local go_sem] max2_int min2_int max_two min_two max_three min_three max_four min_four
set_option linter.unusedVariables false
set_option linter.unusedSimpArgs false
def spec_l2LineOk.l0:Nat→ByteArray→Int→Option (Bool)
 | 0,_,_=>none
 | k+1,x0,x3=>if x3 < (x0.size:Int) then (if 0≤x3 then (if (bt x0 x3) < 32 then (some false) else (if (bt x0 x3) > 126 then (some false) else (spec_l2LineOk.l0 k x0 (wrap64 (x3+1))))) else (none)) else (some (decide ((x0.size:Int)≤40)))
def spec_l2LineOk.f (k:Nat) (a0:ByteArray):Option (Bool):=spec_l2LineOk.l0 k a0 0
set_option maxHeartbeats 8000000 in
set_option maxRecDepth 100000 in
theorem spec_l2LineOk.calls (k:Nat) (a0:ByteArray) (r:Bool) (w:World) (h:spec_l2LineOk.f k a0=some r) :
 Calls Tryd.prog 130 #[.string a0] w fun e w'=>e=.returned (.bool r)∧Drawn0 w w':=by
 have H:(spec_l2LineOk.l0 k a0 0)=some r:=h
 clear h
 have H':=zA H
 clear H
 go_enter Tryd.func130,Tryd.ntmps130
 go_wp2
 go_loopg [3] k (fun kq v3 w'=>∃ (x3_1:Int),v3=.int .i64 x3_1∧Aside0 (spec_l2LineOk.l0 kq a0 x3_1=some r)∧Aside0 (kq≤k)∧Drawn0 w w')
 case atStart=>exact ⟨(0),(by first|rfl|(simp;done)|(simp [*];done)),H',⟨Nat.le_refl _⟩,by repeat (first|exact Drawn0.refl _|apply Drawn0.step)⟩
 case round =>
  clear H'
  try clear c1
  obtain ⟨x3_1,rfl,HA,HK1,⟨m1,rfl⟩⟩:=hrel
  cases gk with
  | zero=>exact absurd HA.out (by simp [spec_l2LineOk.l0])
  | succ k1 =>
   have H:=HA.out
   clear HA
   simp only [spec_l2LineOk.l0] at H
   by_cases c2:x3_1 < (a0.size:Int)
   ·rw [if_pos c2] at H
    have c2b0:decide (x3_1 < (a0.size:Int))=true:=decide_eq_true c2
    clear c2
    by_cases c3:0≤x3_1
    ·rw [if_pos c3] at H
     have c3b0:decide (0≤x3_1)=true:=decide_eq_true c3
     clear c3
     by_cases c5:(bt a0 x3_1) < 32
     ·rw [if_pos c5] at H
      have c5b0:decide ((bt a0 x3_1) < 32)=true:=decide_eq_true c5
      clear c5
      obtain rfl:=Option.some.inj H
      have p4:0≤(x3_1:Int):=of_decide_eq_true (by first|(with_reducible assumption)|assumption)
      have q4:x3_1 < (a0.size:Int):=of_decide_eq_true (by first|(with_reducible assumption)|assumption)
      have hx4:=bt_at a0 x3_1
      replace p4:=eq_true p4
      replace q4:=eq_true q4
      go_wp2
      go_ret
      exact ⟨by first|rfl|(simp;done)|(simp [*];done),by repeat (first|exact Drawn0.refl _|apply Drawn0.step)⟩
     ·rw [if_neg c5] at H
      have c5b0:decide ((bt a0 x3_1) < 32)=false:=decide_eq_false c5
      clear c5
      by_cases c7:(bt a0 x3_1) > 126
      ·rw [if_pos c7] at H
       have c7b0:decide (126 < (bt a0 x3_1))=true:=decide_eq_true c7
       clear c7
       obtain rfl:=Option.some.inj H
       have p4:0≤(x3_1:Int):=of_decide_eq_true (by first|(with_reducible assumption)|assumption)
       have q4:x3_1 < (a0.size:Int):=of_decide_eq_true (by first|(with_reducible assumption)|assumption)
       have hx4:=bt_at a0 x3_1
       replace p4:=eq_true p4
       replace q4:=eq_true q4
       have p6:0≤(x3_1:Int):=of_decide_eq_true (by first|(with_reducible assumption)|assumption)
       have q6:x3_1 < (a0.size:Int):=of_decide_eq_true (by first|(with_reducible assumption)|assumption)
       have hx6:=bt_at a0 x3_1
       replace p6:=eq_true p6
       replace q6:=eq_true q6
       go_wp2
       go_ret
       exact ⟨by first|rfl|(simp;done)|(simp [*];done),by repeat (first|exact Drawn0.refl _|apply Drawn0.step)⟩
      ·rw [if_neg c7] at H
       have c7b0:decide (126 < (bt a0 x3_1))=false:=decide_eq_false c7
       clear c7
       have H':=zA H
       clear H
       have p4:0≤(x3_1:Int):=of_decide_eq_true (by first|(with_reducible assumption)|assumption)
       have q4:x3_1 < (a0.size:Int):=of_decide_eq_true (by first|(with_reducible assumption)|assumption)
       have hx4:=bt_at a0 x3_1
       replace p4:=eq_true p4
       replace q4:=eq_true q4
       have p6:0≤(x3_1:Int):=of_decide_eq_true (by first|(with_reducible assumption)|assumption)
       have q6:x3_1 < (a0.size:Int):=of_decide_eq_true (by first|(with_reducible assumption)|assumption)
       have hx6:=bt_at a0 x3_1
       replace p6:=eq_true p6
       replace q6:=eq_true q6
       go_wp2
       go_roundg k1
       case measure=>have:=HK1.out;omega
       case rel=>exact ⟨(wrap64 (x3_1+1)),(by first|rfl|(simp;done)|(simp [*];done)),H',⟨by have:=HK1.out;omega⟩,by repeat (first|exact Drawn0.refl _|apply Drawn0.step)⟩
    ·rw [if_neg c3] at H
     exact absurd H (by simp)
   ·rw [if_neg c2] at H
    have c2b0:decide (x3_1 < (a0.size:Int))=false:=decide_eq_false c2
    clear c2
    obtain rfl:=Option.some.inj H
    go_wp2
    go_ret
    exact ⟨by first|rfl|(simp;done)|(simp [*];done),by repeat (first|exact Drawn0.refl _|apply Drawn0.step)⟩
def spec_l2BodyOk.l0:Nat→List ByteArray→Int→Option (Bool)
 | 0,_,_=>none
 | k+1,x0,x3=>if x3 < (x0.length:Int) then (if 0≤x3 then ((spec_l2LineOk.f k (rdOf ByteArray.empty x0 x3)).bind fun t102=>(if t102=true then (spec_l2BodyOk.l0 k x0 (wrap64 (x3+1))) else (some false))) else (none)) else (some (decide ((x0.length:Int)≤12)))
def spec_l2BodyOk.f (k:Nat) (l0:List ByteArray):Option (Bool):=spec_l2BodyOk.l0 k l0 0
set_option maxHeartbeats 8000000 in
set_option maxRecDepth 100000 in
theorem spec_l2BodyOk.calls (k:Nat) (A0:Option Addr) (c0:Nat) (l0:List ByteArray) (r:Bool) (w:World) (hr0:Kd.C Kd.string w A0 l0.length l0) (hc0:l0.length≤c0) (h:spec_l2BodyOk.f k l0=some r) :
 Calls Tryd.prog 93 #[.slice A0 l0.length c0] w fun e w'=>e=.returned (.bool r)∧Drawn0 w w':=by
 have HR0:=zA hr0
 have HC0:=zA hc0
 clear hr0 hc0
 have H:(spec_l2BodyOk.l0 k l0 0)=some r:=h
 clear h
 have H':=zA H
 clear H
 go_enter Tryd.func93,Tryd.ntmps93
 go_wp2
 go_loopg [3] k (fun kq v3 w'=>∃ (x3_1:Int),v3=.int .i64 x3_1∧Aside0 (spec_l2BodyOk.l0 kq l0 x3_1=some r)∧Aside0 (kq≤k)∧Drawn0 w w')
 case atStart=>exact ⟨(0),(by first|rfl|(simp;done)|(simp [*];done)),H',⟨Nat.le_refl _⟩,by repeat (first|exact Drawn0.refl _|apply Drawn0.step)⟩
 case round =>
  clear H'
  obtain ⟨x3_1,rfl,HA,HK1,⟨m1,rfl⟩⟩:=hrel
  cases gk with
  | zero=>exact absurd HA.out (by simp [spec_l2BodyOk.l0])
  | succ k1 =>
   have H:=HA.out
   clear HA
   simp only [spec_l2BodyOk.l0] at H
   by_cases c2:x3_1 < (l0.length:Int)
   ·rw [if_pos c2] at H
    have c2b0:decide (x3_1 < (l0.length:Int))=true:=decide_eq_true c2
    clear c2
    by_cases c3:0≤x3_1
    ·rw [if_pos c3] at H
     have c3b0:decide (0≤x3_1)=true:=decide_eq_true c3
     clear c3
     replace H:=Option.bind_eq_some_iff.mp H
     obtain ⟨t102,A40,H⟩:=H
     replace H:(if t102=true then (spec_l2BodyOk.l0 k1 l0 (wrap64 (x3_1+1))) else (some false))=some r:=H
     have A4:=zA A40
     clear A40
     by_cases c5:t102=true
     ·subst c5
      have H1:(spec_l2BodyOk.l0 k1 l0 (wrap64 (x3_1+1)))=some r:=by rw [if_pos rfl] at H;exact H
      clear H
      have H:=H1
      clear H1
      have H':=zA H
      clear H
      have p101:0≤(x3_1:Int):=of_decide_eq_true (by first|(with_reducible assumption)|assumption)
      have q101:x3_1 < (l0.length:Int):=of_decide_eq_true (by first|(with_reducible assumption)|assumption)
      obtain ⟨ad101,e101,hx101_0⟩:=Kd.at_string HR0.out x3_1 p101 q101
      cases e101
      replace p101:=eq_true p101
      replace q101:=eq_true q101
      go_wp2_with (first|((with_reducible refine zq19 (f:=130) rfl ?_);refine goesL_ (some 14) rfl rfl Tryd.func130 (by kernel_rfl) rfl #[.string (rdOf ByteArray.empty l0 x3_1)] rfl (by (try simp only [zL3,zL4,zL5]);first|done|rfl|(simp only [zL6,zL7];rfl)) ?_;(with_reducible refine (spec_l2LineOk.calls k1 (rdOf ByteArray.empty l0 x3_1) true _ A4.out).mono ?_);rintro e w' ⟨rfl,⟨nd,rfl⟩⟩;refine ⟨_,rfl,?_⟩))
      go_roundg k1
      case measure=>have:=HK1.out;omega
      case rel=>exact ⟨(wrap64 (x3_1+1)),(by first|rfl|(simp;done)|(simp [*];done)),H',⟨by have:=HK1.out;omega⟩,by repeat (first|exact Drawn0.refl _|apply Drawn0.step)⟩
     ·replace c5:=Bool.eq_false_iff.mpr c5
      subst c5
      have H1:(some false)=some r:=by rw [if_neg (show ¬ (false=true) by decide)] at H;exact H
      clear H
      have H:=H1
      clear H1
      obtain rfl:=Option.some.inj H
      have p101:0≤(x3_1:Int):=of_decide_eq_true (by first|(with_reducible assumption)|assumption)
      have q101:x3_1 < (l0.length:Int):=of_decide_eq_true (by first|(with_reducible assumption)|assumption)
      obtain ⟨ad101,e101,hx101_0⟩:=Kd.at_string HR0.out x3_1 p101 q101
      cases e101
      replace p101:=eq_true p101
      replace q101:=eq_true q101
      go_wp2_with (first|((with_reducible refine zq19 (f:=130) rfl ?_);refine goesL_ (some 14) rfl rfl Tryd.func130 (by kernel_rfl) rfl #[.string (rdOf ByteArray.empty l0 x3_1)] rfl (by (try simp only [zL3,zL4,zL5]);first|done|rfl|(simp only [zL6,zL7];rfl)) ?_;(with_reducible refine (spec_l2LineOk.calls k1 (rdOf ByteArray.empty l0 x3_1) false _ A4.out).mono ?_);rintro e w' ⟨rfl,⟨nd,rfl⟩⟩;refine ⟨_,rfl,?_⟩))
      go_ret
      exact ⟨by first|rfl|(simp;done)|(simp [*];done),by repeat (first|exact Drawn0.refl _|apply Drawn0.step)⟩
    ·rw [if_neg c3] at H
     exact absurd H (by simp)
   ·rw [if_neg c2] at H
    have c2b0:decide (x3_1 < (l0.length:Int))=false:=decide_eq_false c2
    clear c2
    obtain rfl:=Option.some.inj H
    go_wp2
    go_ret
    exact ⟨by first|rfl|(simp;done)|(simp [*];done),by repeat (first|exact Drawn0.refl _|apply Drawn0.step)⟩
def spec_l1Null.f (a0_0:ByteArray) (a0_1:ByteArray):Option (Bool):=if a0_0.toList=([]:List UInt8) then (some (a0_1.toList==([]:List UInt8))) else (some false)
set_option maxHeartbeats 8000000 in
set_option maxRecDepth 100000 in
theorem spec_l1Null.calls (a0_0:ByteArray) (a0_1:ByteArray) (r:Bool) (w:World) (h:spec_l1Null.f a0_0 a0_1=some r) :
 Calls Tryd.prog 91 #[.agg #[.string a0_0,.string a0_1]] w fun e w'=>e=.returned (.bool r)∧Below w.heap.size w w':=by
 have hu30:=Tryd.underlying30
 have HB:=zA (Below.refl w.heap.size w)
 have H:(if a0_0.toList=([]:List UInt8) then (some (a0_1.toList==([]:List UInt8))) else (some false))=some r:=h
 clear h
 by_cases c2:a0_0.toList=([]:List UInt8)
 ·rw [if_pos c2] at H
  have c2b0:(a0_0.toList==([]:List UInt8))=true:=beq_iff_eq.mpr c2
  have c2b1:(a0_0.toList != ([]:List UInt8))=false:=bne_eq_false_iff_eq.mpr c2
  clear c2
  obtain rfl:=Option.some.inj H
  go_enter Tryd.func91,Tryd.ntmps91
  go_wp2_with (first|((with_reducible refine zq21 (N:=1) rfl ?_);refine zq23 ?hg (N:=1) ?hd (cs:=#[.string a0_0,.string a0_1]) (t:=30) ?hr ?_;(case hd=>rfl);(case hg=>rfl);(case hr=>first|(go_simp;done)|(go_simp;rfl));intro gb101 hg w3 hbox hb;have n0_:=zA (zq11 (by repeat (first|(with_reducible first|exact HB.out|apply zq4|apply zq0|apply zq3)|exact HB.out)) hb);have n1_:=zA (hbox);have n2_:=zA ((by rw [hg];exact (zq14 (by repeat (first|(with_reducible first|exact HB.out|apply zq4|apply zq0|apply zq3)|exact HB.out))):w.heap.size≤gb101));have n3_:=zA ((by rw [hg];exact (zq14 (by repeat (first|(with_reducible first|exact HB.out|apply zq4|apply zq0|apply zq3)|exact HB.out))):w.heap.size≤gb101));clear HB;have HB:=n0_;have BK101:=n1_;have GW101:=n2_;have GE101:=n3_;clear n0_ n1_ n2_ n3_;clear hb hbox hg;have hcz4_0:w3.cell? ⟨gb101,0,none⟩=some (.string a0_0):=zq1 BK101.out 0;have hcz4_1:w3.cell? ⟨gb101,1,none⟩=some (.string a0_1):=zq1 BK101.out 1;have hfz4_0:=zq7 BK101.out 0;have hfz4_1:=zq7 BK101.out 1))
  go_ret
  exact ⟨by first|rfl|(simp [zq16,zq17]<;>rfl)|(simp [*,zq16,zq17]<;>rfl),by repeat (first|(with_reducible first|exact HB.out|apply zq4|apply zq0|apply zq3|refine zq2 ?_ GE101.out)|exact HB.out)⟩
 ·rw [if_neg c2] at H
  have c2b0:(a0_0.toList==([]:List UInt8))=false:=beq_eq_false_iff_ne.mpr c2
  have c2b1:(a0_0.toList != ([]:List UInt8))=true:=bne_iff_ne.mpr c2
  obtain rfl:=Option.some.inj H
  go_enter Tryd.func91,Tryd.ntmps91
  go_wp2_with (first|((with_reducible refine zq21 (N:=1) rfl ?_);refine zq23 ?hg (N:=1) ?hd (cs:=#[.string a0_0,.string a0_1]) (t:=30) ?hr ?_;(case hd=>rfl);(case hg=>rfl);(case hr=>first|(go_simp;done)|(go_simp;rfl));intro gb101 hg w5 hbox hb;have n0_:=zA (zq11 (by repeat (first|(with_reducible first|exact HB.out|apply zq4|apply zq0|apply zq3)|exact HB.out)) hb);have n1_:=zA (hbox);have n2_:=zA ((by rw [hg];exact (zq14 (by repeat (first|(with_reducible first|exact HB.out|apply zq4|apply zq0|apply zq3)|exact HB.out))):w.heap.size≤gb101));have n3_:=zA ((by rw [hg];exact (zq14 (by repeat (first|(with_reducible first|exact HB.out|apply zq4|apply zq0|apply zq3)|exact HB.out))):w.heap.size≤gb101));clear HB;have HB:=n0_;have BK101:=n1_;have GW101:=n2_;have GE101:=n3_;clear n0_ n1_ n2_ n3_;clear hb hbox hg;have hcz6_0:w5.cell? ⟨gb101,0,none⟩=some (.string a0_0):=zq1 BK101.out 0;have hcz6_1:w5.cell? ⟨gb101,1,none⟩=some (.string a0_1):=zq1 BK101.out 1;have hfz6_0:=zq7 BK101.out 0;have hfz6_1:=zq7 BK101.out 1))
  go_ret
  exact ⟨by first|rfl|(simp [zq16,zq17]<;>rfl)|(simp [*,zq16,zq17]<;>rfl),by repeat (first|(with_reducible first|exact HB.out|apply zq4|apply zq0|apply zq3|refine zq2 ?_ GE101.out)|exact HB.out)⟩
end Go.Proofs.YthkibaldmjfmmaaDoor.Q
