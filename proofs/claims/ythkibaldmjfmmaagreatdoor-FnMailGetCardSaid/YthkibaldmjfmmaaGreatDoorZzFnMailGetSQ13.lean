/- Of a text of ours what this claim needs. -/
import Derived.Test.YthkibaldmjfmmaaGreatDoorZzFnMailGetSQ0
import Derived.Test.YthkibaldmjfmmaaGreatDoorZzFnMailGetSQ11
namespace Go.Proofs.YthkibaldmjfmmaaGreatDoor.Q
open Go.RowKit Go.Proofs.YthkibaldmjfmmaaGreatDoorW.PrintWords Go.Proofs.YthkibaldmjfmmaaGreatDoorW.PrintLast Go.Proofs.YthkibaldmjfmmaaGreatDoorW.PrintMore
attribute [local go_sem] max2_int min2_int max_two min_two max_three min_three max_four min_four
set_option linter.unusedVariables false
set_option linter.unusedSimpArgs false
def spec_l1Put.f (a0_0:ByteArray) (a0_1:ByteArray):Option (ByteArray):=(spec_l1Null.f a0_0 a0_1).bind fun t102=>(if t102=true then (some (⟨#[60,62]⟩:ByteArray)) else (if 1+a0_0.size≤9223372036854775807 then (if ((⟨#[60]⟩:ByteArray)++a0_0).size+1≤9223372036854775807 then (if (((⟨#[60]⟩:ByteArray)++a0_0)++(⟨#[64]⟩:ByteArray)).size+a0_1.size≤9223372036854775807 then (if ((((⟨#[60]⟩:ByteArray)++a0_0)++(⟨#[64]⟩:ByteArray))++a0_1).size+1≤9223372036854775807 then (some (((((⟨#[60]⟩:ByteArray)++a0_0)++(⟨#[64]⟩:ByteArray))++a0_1)++(⟨#[62]⟩:ByteArray))) else (none)) else (none)) else (none)) else (none)))
set_option maxHeartbeats 8000000 in
set_option maxRecDepth 100000 in
theorem spec_l1Put.calls (a0_0:ByteArray) (a0_1:ByteArray) (r:ByteArray) (w:World) (h:spec_l1Put.f a0_0 a0_1=some r) :
 Calls Tryz.prog 60 #[.agg #[.string a0_0,.string a0_1]] w fun e w'=>e=.returned (.string r)∧Below w.heap.size w w':=by
 have hu24:=Tryz.underlying24
 have HB:=Aside0.mk (Below.refl w.heap.size w)
 have H:((spec_l1Null.f a0_0 a0_1).bind fun t102=>(if t102=true then (some bz34) else (if 1+a0_0.size≤9223372036854775807 then (if (bz1++a0_0).size+1≤9223372036854775807 then (if ((bz1++a0_0)++bz2).size+a0_1.size≤9223372036854775807 then (if (((bz1++a0_0)++bz2)++a0_1).size+1≤9223372036854775807 then (some ((((bz1++a0_0)++bz2)++a0_1)++bz5)) else (none)) else (none)) else (none)) else (none))))=some r:=h
 clear h
 replace H:=Option.bind_eq_some_iff.mp H
 obtain ⟨t102,A20,H⟩:=H
 replace H:(if t102=true then (some bz34) else (if 1+a0_0.size≤9223372036854775807 then (if (bz1++a0_0).size+1≤9223372036854775807 then (if ((bz1++a0_0)++bz2).size+a0_1.size≤9223372036854775807 then (if (((bz1++a0_0)++bz2)++a0_1).size+1≤9223372036854775807 then (some ((((bz1++a0_0)++bz2)++a0_1)++bz5)) else (none)) else (none)) else (none)) else (none)))=some r:=H
 have A2:=Aside0.mk A20
 clear A20
 by_cases c3:t102=true
 ·subst c3
  have H1:(some bz34)=some r:=by rw [if_pos rfl] at H;exact H
  clear H
  have H:=H1
  clear H1
  obtain rfl:=Option.some.inj H
  go_enter Tryz.func60,Tryz.ntmps60
  go_wp2_with (first|((with_reducible refine zq21 (N:=1) rfl ?_);refine zq22 ?hg (N:=1) ?hd (cs:=#[.string a0_0,.string a0_1]) (t:=24) ?hr ?_;(case hd=>rfl);(case hg=>rfl);(case hr=>first|(go_simp;done)|(go_simp;rfl));intro gb101 hg w4 hbox hb;have n0_:=Aside0.mk (zq9 (by repeat (first|(with_reducible first|exact HB.out|apply zq1|apply zq0|apply zq2)|exact HB.out)) hb);have n1_:=Aside0.mk (hbox);have n2_:=Aside0.mk ((by rw [hg];exact (zq10 (by repeat (first|(with_reducible first|exact HB.out|apply zq1|apply zq0|apply zq2)|exact HB.out))):w.heap.size≤gb101));have n3_:=Aside0.mk ((by rw [hg];exact (zq10 (by repeat (first|(with_reducible first|exact HB.out|apply zq1|apply zq0|apply zq2)|exact HB.out))):w.heap.size≤gb101));clear HB;have HB:=n0_;have BK101:=n1_;have GW101:=n2_;have GE101:=n3_;clear n0_ n1_ n2_ n3_;clear hb hbox hg;have hcz5_0:w4.cell? ⟨gb101,0,none⟩=some (.string a0_0):=(zq8 BK101.out 0).trans rfl;have hcz5_1:w4.cell? ⟨gb101,1,none⟩=some (.string a0_1):=(zq8 BK101.out 1).trans rfl;have hfz5_0:=zq6 BK101.out 0;have hfz5_1:=zq6 BK101.out 1)|((with_reducible refine zq14 (f:=57) rfl ?_);refine zq20 (some 4) rfl rfl Tryz.func57 (by kernel_rfl) rfl #[.agg #[.string a0_0,.string a0_1]] rfl (by (try simp only [List.map_toArray,List.map_cons,List.map_nil]);first|done|rfl|(simp only [List.length_drop,List.length_take];rfl)) ?_;(with_reducible refine (spec_l1Null.calls a0_0 a0_1 true _ A2.out).mono ?_);rintro e w6 ⟨rfl,hb⟩;refine ⟨_,rfl,?_⟩;have n0_:=Aside0.mk (zq13 (g:=gb101) (o:=.cells #[.string a0_0,.string a0_1] 24 (0,0)) (by (with_reducible repeat (first|refine zq4 ?_ _|refine zq7 ?_|refine zq3 ?_ _));exact BK101.out) hb);have n1_:=Aside0.mk (zq9 (by repeat (first|(with_reducible first|exact HB.out|apply zq1|apply zq0|apply zq2|refine zq5 ?_ GE101.out)|exact HB.out)) hb);clear BK101;clear HB;have BK101:=n0_;have HB:=n1_;clear n0_ n1_;(try clear hb);(try clear hb2);(try clear hk);(try clear hi)))
  go_ret
  exact ⟨by first|rfl|(simp [zq11,zq12]<;>rfl)|(simp [*,zq11,zq12]<;>rfl),by repeat (first|(with_reducible first|exact HB.out|apply zq1|apply zq0|apply zq2|refine zq5 ?_ GE101.out)|exact HB.out)⟩
 ·replace c3:=Bool.eq_false_iff.mpr c3
  subst c3
  have H1:(if 1+a0_0.size≤9223372036854775807 then (if (bz1++a0_0).size+1≤9223372036854775807 then (if ((bz1++a0_0)++bz2).size+a0_1.size≤9223372036854775807 then (if (((bz1++a0_0)++bz2)++a0_1).size+1≤9223372036854775807 then (some ((((bz1++a0_0)++bz2)++a0_1)++bz5)) else (none)) else (none)) else (none)) else (none))=some r:=by rw [if_neg (show ¬ (false=true) by decide)] at H;exact H
  clear H
  have H:=H1
  clear H1
  by_cases c7:1+a0_0.size≤9223372036854775807
  ·rw [if_pos c7] at H
   have c7b0:=eq_true c7
   have c7b1:decide (1+a0_0.size≤9223372036854775807)=true:=decide_eq_true c7
   try have c7b2:(9223372036854775807 < 1+a0_0.size)=False:=eq_false (Nat.not_lt.2 c7)
   by_cases c8:(bz1++a0_0).size+1≤9223372036854775807
   ·rw [if_pos c8] at H
    have c8b0:=eq_true c8
    have c8b1:decide ((bz1++a0_0).size+1≤9223372036854775807)=true:=decide_eq_true c8
    try have c8b2:(9223372036854775807 < (bz1++a0_0).size+1)=False:=eq_false (Nat.not_lt.2 c8)
    try have c8b3:=c8
    try simp only [ByteArray.size_append',sz1,sz2,sz3,sz4,sz5,sz6,sz7,sz8] at c8b3
    try have c8b4:=eq_true c8b3
    try have c8b5:=eq_false (Nat.not_lt.2 c8b3)
    by_cases c9:((bz1++a0_0)++bz2).size+a0_1.size≤9223372036854775807
    ·rw [if_pos c9] at H
     have c9b0:=eq_true c9
     have c9b1:decide (((bz1++a0_0)++bz2).size+a0_1.size≤9223372036854775807)=true:=decide_eq_true c9
     try have c9b2:(9223372036854775807 < ((bz1++a0_0)++bz2).size+a0_1.size)=False:=eq_false (Nat.not_lt.2 c9)
     try have c9b3:=c9
     try simp only [ByteArray.size_append',sz1,sz2,sz3,sz4,sz5,sz6,sz7,sz8] at c9b3
     try have c9b4:=eq_true c9b3
     try have c9b5:=eq_false (Nat.not_lt.2 c9b3)
     by_cases c10:(((bz1++a0_0)++bz2)++a0_1).size+1≤9223372036854775807
     ·rw [if_pos c10] at H
      have c10b0:=eq_true c10
      have c10b1:decide ((((bz1++a0_0)++bz2)++a0_1).size+1≤9223372036854775807)=true:=decide_eq_true c10
      try have c10b2:(9223372036854775807 < (((bz1++a0_0)++bz2)++a0_1).size+1)=False:=eq_false (Nat.not_lt.2 c10)
      try have c10b3:=c10
      try simp only [ByteArray.size_append',sz1,sz2,sz3,sz4,sz5,sz6,sz7,sz8] at c10b3
      try have c10b4:=eq_true c10b3
      try have c10b5:=eq_false (Nat.not_lt.2 c10b3)
      obtain rfl:=Option.some.inj H
      go_enter Tryz.func60,Tryz.ntmps60
      go_wp2_with (first|((with_reducible refine zq21 (N:=1) rfl ?_);refine zq22 ?hg (N:=1) ?hd (cs:=#[.string a0_0,.string a0_1]) (t:=24) ?hr ?_;(case hd=>rfl);(case hg=>rfl);(case hr=>first|(go_simp;done)|(go_simp;rfl));intro gb101 hg w11 hbox hb;have n0_:=Aside0.mk (zq9 (by repeat (first|(with_reducible first|exact HB.out|apply zq1|apply zq0|apply zq2)|exact HB.out)) hb);have n1_:=Aside0.mk (hbox);have n2_:=Aside0.mk ((by rw [hg];exact (zq10 (by repeat (first|(with_reducible first|exact HB.out|apply zq1|apply zq0|apply zq2)|exact HB.out))):w.heap.size≤gb101));have n3_:=Aside0.mk ((by rw [hg];exact (zq10 (by repeat (first|(with_reducible first|exact HB.out|apply zq1|apply zq0|apply zq2)|exact HB.out))):w.heap.size≤gb101));clear HB;have HB:=n0_;have BK101:=n1_;have GW101:=n2_;have GE101:=n3_;clear n0_ n1_ n2_ n3_;clear hb hbox hg;have hcz12_0:w11.cell? ⟨gb101,0,none⟩=some (.string a0_0):=(zq8 BK101.out 0).trans rfl;have hcz12_1:w11.cell? ⟨gb101,1,none⟩=some (.string a0_1):=(zq8 BK101.out 1).trans rfl;have hfz12_0:=zq6 BK101.out 0;have hfz12_1:=zq6 BK101.out 1)|((with_reducible refine zq14 (f:=57) rfl ?_);refine zq20 (some 4) rfl rfl Tryz.func57 (by kernel_rfl) rfl #[.agg #[.string a0_0,.string a0_1]] rfl (by (try simp only [List.map_toArray,List.map_cons,List.map_nil]);first|done|rfl|(simp only [List.length_drop,List.length_take];rfl)) ?_;(with_reducible refine (spec_l1Null.calls a0_0 a0_1 false _ A2.out).mono ?_);rintro e w13 ⟨rfl,hb⟩;refine ⟨_,rfl,?_⟩;have n0_:=Aside0.mk (zq13 (g:=gb101) (o:=.cells #[.string a0_0,.string a0_1] 24 (0,0)) (by (with_reducible repeat (first|refine zq4 ?_ _|refine zq7 ?_|refine zq3 ?_ _));exact BK101.out) hb);have n1_:=Aside0.mk (zq9 (by repeat (first|(with_reducible first|exact HB.out|apply zq1|apply zq0|apply zq2|refine zq5 ?_ GE101.out)|exact HB.out)) hb);clear BK101;clear HB;have BK101:=n0_;have HB:=n1_;clear n0_ n1_;(try clear hb);(try clear hb2);(try clear hk);(try clear hi);have hcz14_0:w13.cell? ⟨gb101,0,none⟩=some (.string a0_0):=(zq8 BK101.out 0).trans rfl;have hcz14_1:w13.cell? ⟨gb101,1,none⟩=some (.string a0_1):=(zq8 BK101.out 1).trans rfl;have hfz14_0:=zq6 BK101.out 0;have hfz14_1:=zq6 BK101.out 1))
      go_ret
      exact ⟨by first|rfl|(simp [zq11,zq12]<;>rfl)|(simp [*,zq11,zq12]<;>rfl),by repeat (first|(with_reducible first|exact HB.out|apply zq1|apply zq0|apply zq2|refine zq5 ?_ GE101.out)|exact HB.out)⟩
     ·rw [if_neg c10] at H
      exact absurd H (by simp)
    ·rw [if_neg c9] at H
     exact absurd H (by simp)
   ·rw [if_neg c8] at H
    exact absurd H (by simp)
  ·rw [if_neg c7] at H
   exact absurd H (by simp)
def spec_l2Dots.l0:Nat→List ByteArray→ByteArray→Int→Option (ByteArray)
 | 0,_,_,_=>none
 | k+1,x0,x3,x4=>if x4 < (x0.length:Int) then (if 0≤x4 then (if (rdOf ByteArray.empty x0 x4).toList=([]:List UInt8) then (if x3.size+(rdOf ByteArray.empty x0 x4).size≤9223372036854775807 then (if (x3++(rdOf ByteArray.empty x0 x4)).size+2≤9223372036854775807 then (spec_l2Dots.l0 k x0 ((x3++(rdOf ByteArray.empty x0 x4))++(⟨#[13,10]⟩:ByteArray)) (wrap64 (x4+1))) else (none)) else (none)) else (if 0 < ((rdOf ByteArray.empty x0 x4).size:Int) then (if (bt (rdOf ByteArray.empty x0 x4) 0)=46 then (if 1+(rdOf ByteArray.empty x0 x4).size≤9223372036854775807 then (if x3.size+((⟨#[46]⟩:ByteArray)++(rdOf ByteArray.empty x0 x4)).size≤9223372036854775807 then (if (x3++((⟨#[46]⟩:ByteArray)++(rdOf ByteArray.empty x0 x4))).size+2≤9223372036854775807 then (spec_l2Dots.l0 k x0 ((x3++((⟨#[46]⟩:ByteArray)++(rdOf ByteArray.empty x0 x4)))++(⟨#[13,10]⟩:ByteArray)) (wrap64 (x4+1))) else (none)) else (none)) else (none)) else (if x3.size+(rdOf ByteArray.empty x0 x4).size≤9223372036854775807 then (if (x3++(rdOf ByteArray.empty x0 x4)).size+2≤9223372036854775807 then (spec_l2Dots.l0 k x0 ((x3++(rdOf ByteArray.empty x0 x4))++(⟨#[13,10]⟩:ByteArray)) (wrap64 (x4+1))) else (none)) else (none))) else (none))) else (none)) else (if x3.size+3≤9223372036854775807 then (some (x3++(⟨#[46,13,10]⟩:ByteArray))) else (none))
def spec_l2Dots.f (k:Nat) (l0:List ByteArray):Option (ByteArray):=spec_l2Dots.l0 k l0 (⟨#[]⟩:ByteArray) 0
set_option maxHeartbeats 8000000 in
set_option maxRecDepth 100000 in
theorem spec_l2Dots.calls (k:Nat) (A0:Option Addr) (c0:Nat) (l0:List ByteArray) (r:ByteArray) (w:World) (hr0:Kd.C Kd.string w A0 l0.length l0) (hc0:l0.length≤c0) (h:spec_l2Dots.f k l0=some r) :
 Calls Tryz.prog 61 #[.slice A0 l0.length c0] w fun e w'=>e=.returned (.string r)∧Drawn0 w w':=by
 have HR0:=Aside0.mk hr0
 have HC0:=Aside0.mk hc0
 clear hr0 hc0
 have H:(spec_l2Dots.l0 k l0 bz0 0)=some r:=h
 clear h
 have H':=Aside0.mk H
 clear H
 go_enter Tryz.func61,Tryz.ntmps61
 go_wp2
 go_loopg [3,4] k (fun kq v3 v4 w'=>∃ (x3_1:ByteArray) (x4_1:Int),v3=.string x3_1∧v4=.int .i64 x4_1∧Aside0 (spec_l2Dots.l0 kq l0 x3_1 x4_1=some r)∧Aside0 (kq≤k)∧Drawn0 w w')
 case atStart=>exact ⟨(bz0),(0),(by first|rfl|(simp;done)|(simp [*];done)),(by first|rfl|(simp;done)|(simp [*];done)),H',⟨Nat.le_refl _⟩,by repeat (first|exact Drawn0.refl _|apply Drawn0.step)⟩
 case round =>
  clear H'
  obtain ⟨x3_1,x4_1,rfl,rfl,HA,HK1,⟨m1,rfl⟩⟩:=hrel
  cases gk with
  | zero=>exact absurd HA.out (by simp [spec_l2Dots.l0])
  | succ k1 =>
   have H:=HA.out
   clear HA
   simp only [spec_l2Dots.l0] at H
   by_cases c2:x4_1 < (l0.length:Int)
   ·rw [if_pos c2] at H
    have c2b0:decide (x4_1 < (l0.length:Int))=true:=decide_eq_true c2
    clear c2
    by_cases c3:0≤x4_1
    ·rw [if_pos c3] at H
     have c3b0:decide (0≤x4_1)=true:=decide_eq_true c3
     clear c3
     by_cases c4:(rdOf ByteArray.empty l0 x4_1).toList=([]:List UInt8)
     ·rw [if_pos c4] at H
      have c4b0:((rdOf ByteArray.empty l0 x4_1).toList==([]:List UInt8))=true:=beq_iff_eq.mpr c4
      have c4b1:((rdOf ByteArray.empty l0 x4_1).toList != ([]:List UInt8))=false:=bne_eq_false_iff_eq.mpr c4
      clear c4
      by_cases c5:x3_1.size+(rdOf ByteArray.empty l0 x4_1).size≤9223372036854775807
      ·rw [if_pos c5] at H
       have c5b0:=eq_true c5
       have c5b1:decide (x3_1.size+(rdOf ByteArray.empty l0 x4_1).size≤9223372036854775807)=true:=decide_eq_true c5
       try have c5b2:(9223372036854775807 < x3_1.size+(rdOf ByteArray.empty l0 x4_1).size)=False:=eq_false (Nat.not_lt.2 c5)
       by_cases c6:(x3_1++(rdOf ByteArray.empty l0 x4_1)).size+2≤9223372036854775807
       ·rw [if_pos c6] at H
        have c6b0:=eq_true c6
        have c6b1:decide ((x3_1++(rdOf ByteArray.empty l0 x4_1)).size+2≤9223372036854775807)=true:=decide_eq_true c6
        try have c6b2:(9223372036854775807 < (x3_1++(rdOf ByteArray.empty l0 x4_1)).size+2)=False:=eq_false (Nat.not_lt.2 c6)
        try have c6b3:=c6
        try simp only [ByteArray.size_append',sz1,sz2,sz3,sz4,sz5,sz6,sz7,sz8] at c6b3
        try have c6b4:=eq_true c6b3
        try have c6b5:=eq_false (Nat.not_lt.2 c6b3)
        have H':=Aside0.mk H
        clear H
        have p101:0≤(x4_1:Int):=of_decide_eq_true (by first|(with_reducible assumption)|assumption)
        have q101:x4_1 < (l0.length:Int):=of_decide_eq_true (by first|(with_reducible assumption)|assumption)
        obtain ⟨ad101,e101,hx101_0⟩:=Kd.at_string HR0.out x4_1 p101 q101
        cases e101
        replace p101:=eq_true p101
        replace q101:=eq_true q101
        go_wp2
        go_roundg k1
        case measure=>have:=HK1.out;omega
        case rel=>exact ⟨((x3_1++(rdOf ByteArray.empty l0 x4_1))++bz3),(wrap64 (x4_1+1)),(by first|rfl|(simp;done)|(simp [*];done)),(by first|rfl|(simp;done)|(simp [*];done)),H',⟨by have:=HK1.out;omega⟩,by repeat (first|exact Drawn0.refl _|apply Drawn0.step)⟩
       ·rw [if_neg c6] at H
        exact absurd H (by simp)
      ·rw [if_neg c5] at H
       exact absurd H (by simp)
     ·rw [if_neg c4] at H
      have c4b0:((rdOf ByteArray.empty l0 x4_1).toList==([]:List UInt8))=false:=beq_eq_false_iff_ne.mpr c4
      have c4b1:((rdOf ByteArray.empty l0 x4_1).toList != ([]:List UInt8))=true:=bne_iff_ne.mpr c4
      by_cases c7:0 < ((rdOf ByteArray.empty l0 x4_1).size:Int)
      ·rw [if_pos c7] at H
       have c7b0:decide (0 < ((rdOf ByteArray.empty l0 x4_1).size:Int))=true:=decide_eq_true c7
       have c7b1:decide (0 < (rdOf ByteArray.empty l0 x4_1).size)=true:=decide_eq_true (by omega)
       clear c7
       by_cases c9:(bt (rdOf ByteArray.empty l0 x4_1) 0)=46
       ·rw [if_pos c9] at H
        have c9b0:((bt (rdOf ByteArray.empty l0 x4_1) 0)==46)=true:=beq_iff_eq.mpr c9
        have c9b1:((bt (rdOf ByteArray.empty l0 x4_1) 0) != 46)=false:=bne_eq_false_iff_eq.mpr c9
        clear c9
        by_cases c10:1+(rdOf ByteArray.empty l0 x4_1).size≤9223372036854775807
        ·rw [if_pos c10] at H
         have c10b0:=eq_true c10
         have c10b1:decide (1+(rdOf ByteArray.empty l0 x4_1).size≤9223372036854775807)=true:=decide_eq_true c10
         try have c10b2:(9223372036854775807 < 1+(rdOf ByteArray.empty l0 x4_1).size)=False:=eq_false (Nat.not_lt.2 c10)
         by_cases c11:x3_1.size+(bz4++(rdOf ByteArray.empty l0 x4_1)).size≤9223372036854775807
         ·rw [if_pos c11] at H
          have c11b0:=eq_true c11
          have c11b1:decide (x3_1.size+(bz4++(rdOf ByteArray.empty l0 x4_1)).size≤9223372036854775807)=true:=decide_eq_true c11
          try have c11b2:(9223372036854775807 < x3_1.size+(bz4++(rdOf ByteArray.empty l0 x4_1)).size)=False:=eq_false (Nat.not_lt.2 c11)
          try have c11b3:=c11
          try simp only [ByteArray.size_append',sz1,sz2,sz3,sz4,sz5,sz6,sz7,sz8] at c11b3
          try have c11b4:=eq_true c11b3
          try have c11b5:=eq_false (Nat.not_lt.2 c11b3)
          by_cases c12:(x3_1++(bz4++(rdOf ByteArray.empty l0 x4_1))).size+2≤9223372036854775807
          ·rw [if_pos c12] at H
           have c12b0:=eq_true c12
           have c12b1:decide ((x3_1++(bz4++(rdOf ByteArray.empty l0 x4_1))).size+2≤9223372036854775807)=true:=decide_eq_true c12
           try have c12b2:(9223372036854775807 < (x3_1++(bz4++(rdOf ByteArray.empty l0 x4_1))).size+2)=False:=eq_false (Nat.not_lt.2 c12)
           try have c12b3:=c12
           try simp only [ByteArray.size_append',sz1,sz2,sz3,sz4,sz5,sz6,sz7,sz8] at c12b3
           try have c12b4:=eq_true c12b3
           try have c12b5:=eq_false (Nat.not_lt.2 c12b3)
           have H':=Aside0.mk H
           clear H
           have p101:0≤(x4_1:Int):=of_decide_eq_true (by first|(with_reducible assumption)|assumption)
           have q101:x4_1 < (l0.length:Int):=of_decide_eq_true (by first|(with_reducible assumption)|assumption)
           obtain ⟨ad101,e101,hx101_0⟩:=Kd.at_string HR0.out x4_1 p101 q101
           cases e101
           replace p101:=eq_true p101
           replace q101:=eq_true q101
           have p8:0≤(0:Int):=(by omega)
           have q8:0 < (rdOf ByteArray.empty l0 x4_1).size:=(by have:(0:Int) < ((rdOf ByteArray.empty l0 x4_1).size:Int):=of_decide_eq_true (by first|(with_reducible assumption)|assumption);omega)
           have hx8:∀ h:0 < (rdOf ByteArray.empty l0 x4_1).size,(((rdOf ByteArray.empty l0 x4_1)[0]'h).toNat:Int)=bt (rdOf ByteArray.empty l0 x4_1) 0:=bt_at (rdOf ByteArray.empty l0 x4_1) 0
           clear p8
           have qi8:(0 < ((rdOf ByteArray.empty l0 x4_1).size:Int))=True:=eq_true (of_decide_eq_true (by first|(with_reducible assumption)|assumption))
           replace q8:=eq_true q8
           go_wp2
           go_roundg k1
           case measure=>have:=HK1.out;omega
           case rel=>exact ⟨((x3_1++(bz4++(rdOf ByteArray.empty l0 x4_1)))++bz3),(wrap64 (x4_1+1)),(by first|rfl|(simp;done)|(simp [*];done)),(by first|rfl|(simp;done)|(simp [*];done)),H',⟨by have:=HK1.out;omega⟩,by repeat (first|exact Drawn0.refl _|apply Drawn0.step)⟩
          ·rw [if_neg c12] at H
           exact absurd H (by simp)
         ·rw [if_neg c11] at H
          exact absurd H (by simp)
        ·rw [if_neg c10] at H
         exact absurd H (by simp)
       ·rw [if_neg c9] at H
        have c9b0:((bt (rdOf ByteArray.empty l0 x4_1) 0)==46)=false:=beq_eq_false_iff_ne.mpr c9
        have c9b1:((bt (rdOf ByteArray.empty l0 x4_1) 0) != 46)=true:=bne_iff_ne.mpr c9
        by_cases c13:x3_1.size+(rdOf ByteArray.empty l0 x4_1).size≤9223372036854775807
        ·rw [if_pos c13] at H
         have c13b0:=eq_true c13
         have c13b1:decide (x3_1.size+(rdOf ByteArray.empty l0 x4_1).size≤9223372036854775807)=true:=decide_eq_true c13
         try have c13b2:(9223372036854775807 < x3_1.size+(rdOf ByteArray.empty l0 x4_1).size)=False:=eq_false (Nat.not_lt.2 c13)
         by_cases c14:(x3_1++(rdOf ByteArray.empty l0 x4_1)).size+2≤9223372036854775807
         ·rw [if_pos c14] at H
          have c14b0:=eq_true c14
          have c14b1:decide ((x3_1++(rdOf ByteArray.empty l0 x4_1)).size+2≤9223372036854775807)=true:=decide_eq_true c14
          try have c14b2:(9223372036854775807 < (x3_1++(rdOf ByteArray.empty l0 x4_1)).size+2)=False:=eq_false (Nat.not_lt.2 c14)
          try have c14b3:=c14
          try simp only [ByteArray.size_append',sz1,sz2,sz3,sz4,sz5,sz6,sz7,sz8] at c14b3
          try have c14b4:=eq_true c14b3
          try have c14b5:=eq_false (Nat.not_lt.2 c14b3)
          have H':=Aside0.mk H
          clear H
          have p101:0≤(x4_1:Int):=of_decide_eq_true (by first|(with_reducible assumption)|assumption)
          have q101:x4_1 < (l0.length:Int):=of_decide_eq_true (by first|(with_reducible assumption)|assumption)
          obtain ⟨ad101,e101,hx101_0⟩:=Kd.at_string HR0.out x4_1 p101 q101
          cases e101
          replace p101:=eq_true p101
          replace q101:=eq_true q101
          have p8:0≤(0:Int):=(by omega)
          have q8:0 < (rdOf ByteArray.empty l0 x4_1).size:=(by have:(0:Int) < ((rdOf ByteArray.empty l0 x4_1).size:Int):=of_decide_eq_true (by first|(with_reducible assumption)|assumption);omega)
          have hx8:∀ h:0 < (rdOf ByteArray.empty l0 x4_1).size,(((rdOf ByteArray.empty l0 x4_1)[0]'h).toNat:Int)=bt (rdOf ByteArray.empty l0 x4_1) 0:=bt_at (rdOf ByteArray.empty l0 x4_1) 0
          clear p8
          have qi8:(0 < ((rdOf ByteArray.empty l0 x4_1).size:Int))=True:=eq_true (of_decide_eq_true (by first|(with_reducible assumption)|assumption))
          replace q8:=eq_true q8
          go_wp2
          go_roundg k1
          case measure=>have:=HK1.out;omega
          case rel=>exact ⟨((x3_1++(rdOf ByteArray.empty l0 x4_1))++bz3),(wrap64 (x4_1+1)),(by first|rfl|(simp;done)|(simp [*];done)),(by first|rfl|(simp;done)|(simp [*];done)),H',⟨by have:=HK1.out;omega⟩,by repeat (first|exact Drawn0.refl _|apply Drawn0.step)⟩
         ·rw [if_neg c14] at H
          exact absurd H (by simp)
        ·rw [if_neg c13] at H
         exact absurd H (by simp)
      ·rw [if_neg c7] at H
       exact absurd H (by simp)
    ·rw [if_neg c3] at H
     exact absurd H (by simp)
   ·rw [if_neg c2] at H
    have c2b0:decide (x4_1 < (l0.length:Int))=false:=decide_eq_false c2
    clear c2
    by_cases c15:x3_1.size+3≤9223372036854775807
    ·rw [if_pos c15] at H
     have c15b0:=eq_true c15
     have c15b1:decide (x3_1.size+3≤9223372036854775807)=true:=decide_eq_true c15
     try have c15b2:(9223372036854775807 < x3_1.size+3)=False:=eq_false (Nat.not_lt.2 c15)
     obtain rfl:=Option.some.inj H
     go_wp2
     go_ret
     exact ⟨by first|rfl|(simp;done)|(simp [*];done),by repeat (first|exact Drawn0.refl _|apply Drawn0.step)⟩
    ·rw [if_neg c15] at H
     exact absurd H (by simp)
end Go.Proofs.YthkibaldmjfmmaaGreatDoor.Q
