/- Of a text of ours what this claim needs. -/
import Derived.Test.YthkibaldmjfmmaaGreatDoorZzFnMailGetSQ0
import Derived.Test.YthkibaldmjfmmaaGreatDoorZzFnMailGetSQ12
import Derived.Test.YthkibaldmjfmmaaGreatDoorZzFnMailGetSQ13
namespace Go.Proofs.YthkibaldmjfmmaaGreatDoor.Q
open Go.RowKit Go.Proofs.YthkibaldmjfmmaaGreatDoorW.PrintWords Go.Proofs.YthkibaldmjfmmaaGreatDoorW.PrintLast Go.Proofs.YthkibaldmjfmmaaGreatDoorW.PrintMore
attribute [local go_sem] max2_int min2_int max_two min_two max_three min_three max_four min_four
set_option linter.unusedVariables false
set_option linter.unusedSimpArgs false
def spec_l2Put.l0:Nat→ByteArray→Int→ByteArray→ByteArray→List (S24)→List ByteArray→Option (ByteArray)
 | 0,_,_,_,_,_,_=>none
 | k+1,x3,x4,x103000,x103001,x103002,x103003=>if x4 < (x103002.length:Int) then (if x3.size+3≤9223372036854775807 then (if 0≤x4 then ((spec_l1Put.f ((rd_T24 x103002 x4).f0) ((rd_T24 x103002 x4).f1)).bind fun t105=>(if (x3++(⟨#[116,111,32]⟩:ByteArray)).size+t105.size≤9223372036854775807 then (if ((x3++(⟨#[116,111,32]⟩:ByteArray))++t105).size+2≤9223372036854775807 then (spec_l2Put.l0 k (((x3++(⟨#[116,111,32]⟩:ByteArray))++t105)++(⟨#[13,10]⟩:ByteArray)) (wrap64 (x4+1)) x103000 x103001 x103002 x103003) else (none)) else (none))) else (none)) else (none)) else (if x3.size+2≤9223372036854775807 then ((spec_l2Dots.f k x103003).bind fun t106=>(if (x3++(⟨#[13,10]⟩:ByteArray)).size+t106.size≤9223372036854775807 then (some ((x3++(⟨#[13,10]⟩:ByteArray))++t106)) else (none))) else (none))
def spec_l2Put.f (k:Nat) (a0_0:ByteArray) (a0_1:ByteArray) (l0_2:List (S24)) (l0_3:List ByteArray):Option (ByteArray):=(spec_l1Put.f a0_0 a0_1).bind fun t103=>(if 5+t103.size≤9223372036854775807 then (if ((⟨#[102,114,111,109,32]⟩:ByteArray)++t103).size+2≤9223372036854775807 then (spec_l2Put.l0 k (((⟨#[102,114,111,109,32]⟩:ByteArray)++t103)++(⟨#[13,10]⟩:ByteArray)) 0 a0_0 a0_1 l0_2 l0_3) else (none)) else (none))
set_option maxHeartbeats 8000000 in
set_option maxRecDepth 100000 in
theorem spec_l2Put.calls (k:Nat) (a0_0:ByteArray) (a0_1:ByteArray) (A0_2:Option Addr) (c0_2:Nat) (l0_2:List (S24)) (A0_3:Option Addr) (c0_3:Nat) (l0_3:List ByteArray) (r:ByteArray) (w:World) (hr0_2:Kd.C k24 w A0_2 l0_2.length l0_2) (hc0_2:l0_2.length≤c0_2) (hr0_3:Kd.C Kd.string w A0_3 l0_3.length l0_3) (hc0_3:l0_3.length≤c0_3) (h:spec_l2Put.f k a0_0 a0_1 l0_2 l0_3=some r) :
 Calls Tryz.prog 23 #[.agg #[.string a0_0,.string a0_1,.slice A0_2 l0_2.length c0_2,.slice A0_3 l0_3.length c0_3]] w fun e w'=>e=.returned (.string r)∧Below w.heap.size w w':=by
 have hu28:=Tryz.underlying28
 have hu24:=Tryz.underlying24
 have HR0_2:=Aside0.mk hr0_2
 have HC0_2:=Aside0.mk hc0_2
 clear hr0_2 hc0_2
 have HR0_3:=Aside0.mk hr0_3
 have HC0_3:=Aside0.mk hc0_3
 clear hr0_3 hc0_3
 have HB:=Aside0.mk (Below.refl w.heap.size w)
 have H:((spec_l1Put.f a0_0 a0_1).bind fun t103=>(if 5+t103.size≤9223372036854775807 then (if (bz7++t103).size+2≤9223372036854775807 then (spec_l2Put.l0 k ((bz7++t103)++bz3) 0 a0_0 a0_1 l0_2 l0_3) else (none)) else (none)))=some r:=h
 clear h
 replace H:=Option.bind_eq_some_iff.mp H
 obtain ⟨t103,A20,H⟩:=H
 replace H:(if 5+t103.size≤9223372036854775807 then (if (bz7++t103).size+2≤9223372036854775807 then (spec_l2Put.l0 k ((bz7++t103)++bz3) 0 a0_0 a0_1 l0_2 l0_3) else (none)) else (none))=some r:=H
 have A2:=Aside0.mk A20
 clear A20
 by_cases c3:5+t103.size≤9223372036854775807
 ·rw [if_pos c3] at H
  have c3b0:=eq_true c3
  have c3b1:decide (5+t103.size≤9223372036854775807)=true:=decide_eq_true c3
  try have c3b2:(9223372036854775807 < 5+t103.size)=False:=eq_false (Nat.not_lt.2 c3)
  by_cases c4:(bz7++t103).size+2≤9223372036854775807
  ·rw [if_pos c4] at H
   have c4b0:=eq_true c4
   have c4b1:decide ((bz7++t103).size+2≤9223372036854775807)=true:=decide_eq_true c4
   try have c4b2:(9223372036854775807 < (bz7++t103).size+2)=False:=eq_false (Nat.not_lt.2 c4)
   try have c4b3:=c4
   try simp only [ByteArray.size_append',sz1,sz2,sz3,sz4,sz5,sz6,sz7,sz8] at c4b3
   try have c4b4:=eq_true c4b3
   try have c4b5:=eq_false (Nat.not_lt.2 c4b3)
   have H':=Aside0.mk H
   clear H
   go_enter Tryz.func23,Tryz.ntmps23
   go_wp2_with (first|((with_reducible refine zq21 (N:=1) rfl ?_);refine zq22 ?hg (N:=1) ?hd (cs:=#[.string a0_0,.string a0_1,.slice A0_2 l0_2.length c0_2,.slice A0_3 l0_3.length c0_3]) (t:=28) ?hr ?_;(case hd=>rfl);(case hg=>rfl);(case hr=>first|(go_simp;done)|(go_simp;rfl));intro gb102 hg w5 hbox hb;have n0_:=Aside0.mk (zq9 (by repeat (first|(with_reducible first|exact HB.out|apply zq1|apply zq0|apply zq2)|exact HB.out)) hb);have n1_:=Aside0.mk (hbox);have n2_:=Aside0.mk ((by rw [hg];exact (zq10 (by repeat (first|(with_reducible first|exact HB.out|apply zq1|apply zq0|apply zq2)|exact HB.out))):w.heap.size≤gb102));have n3_:=Aside0.mk ((by rw [hg];exact (zq10 (by repeat (first|(with_reducible first|exact HB.out|apply zq1|apply zq0|apply zq2)|exact HB.out))):w.heap.size≤gb102));clear HB;have HB:=n0_;have BK102:=n1_;have GW102:=n2_;have GE102:=n3_;clear n0_ n1_ n2_ n3_;clear hb hbox hg;have hcz6_0:w5.cell? ⟨gb102,0,none⟩=some (.string a0_0):=(zq8 BK102.out 0).trans rfl;have hcz6_1:w5.cell? ⟨gb102,1,none⟩=some (.string a0_1):=(zq8 BK102.out 1).trans rfl;have hcz6_2:w5.cell? ⟨gb102,2,none⟩=some (.slice A0_2 l0_2.length c0_2):=(zq8 BK102.out 2).trans rfl;have hcz6_3:w5.cell? ⟨gb102,3,none⟩=some (.slice A0_3 l0_3.length c0_3):=(zq8 BK102.out 3).trans rfl;have hfz6_0:=zq6 BK102.out 0;have hfz6_1:=zq6 BK102.out 1;have hfz6_2:=zq6 BK102.out 2;have hfz6_3:=zq6 BK102.out 3)|((with_reducible refine zq14 (f:=60) rfl ?_);refine zq20 (some 7) rfl rfl Tryz.func60 (by kernel_rfl) rfl #[.agg #[.string a0_0,.string a0_1]] rfl (by (try simp only [List.map_toArray,List.map_cons,List.map_nil]);first|done|rfl|(simp only [List.length_drop,List.length_take];rfl)) ?_;(with_reducible refine (spec_l1Put.calls a0_0 a0_1 t103 _ A2.out).mono ?_);rintro e w7 ⟨rfl,hb⟩;refine ⟨_,rfl,?_⟩;have n0_:=Aside0.mk (zq13 (g:=gb102) (o:=.cells #[.string a0_0,.string a0_1,.slice A0_2 l0_2.length c0_2,.slice A0_3 l0_3.length c0_3] 28 (0,0)) (by (with_reducible repeat (first|refine zq4 ?_ _|refine zq7 ?_|refine zq3 ?_ _));exact BK102.out) hb);have n1_:=Aside0.mk (zq9 (by repeat (first|(with_reducible first|exact HB.out|apply zq1|apply zq0|apply zq2|refine zq5 ?_ GE102.out)|exact HB.out)) hb);clear BK102;clear HB;have BK102:=n0_;have HB:=n1_;clear n0_ n1_;(try clear hb);(try clear hb2);(try clear hk);(try clear hi)))
   go_loopg [3,4] k (fun kq v3 v4 w'=>∃ (x3_1:ByteArray) (x4_1:Int),v3=.string x3_1∧v4=.int .i64 x4_1∧Aside0 (spec_l2Put.l0 kq x3_1 x4_1 a0_0 a0_1 l0_2 l0_3=some r)∧Aside0 (kq≤k)∧Aside0 (w'.heap[gb102]?=some (.cells #[.string a0_0,.string a0_1,(.slice A0_2 l0_2.length c0_2),(.slice A0_3 l0_3.length c0_3)] 28 (0,0)))∧Aside0 (Below w.heap.size w w'))
   case atStart=>exact ⟨((bz7++t103)++bz3),(0),(by first|rfl|(simp;done)|(simp [*];done)),(by first|rfl|(simp;done)|(simp [*];done)),H',⟨Nat.le_refl _⟩,⟨by (with_reducible repeat (first|refine zq4 ?_ _|refine zq7 ?_|refine zq3 ?_ _));exact BK102.out⟩,⟨by repeat (first|(with_reducible first|exact HB.out|apply zq1|apply zq0|apply zq2|refine zq5 ?_ GE102.out)|exact HB.out)⟩⟩
   case round =>
    clear H'
    try clear c2
    try clear p2
    try clear c3
    try clear c3b0
    try clear c3b1
    try clear c3b2
    try clear c4
    try clear c4b0
    try clear c4b1
    try clear c4b2
    try clear c6
    try clear hcz6_0
    try clear hcz6_1
    try clear hcz6_2
    try clear hcz6_3
    try clear hfz6_0
    try clear hfz6_1
    try clear hfz6_2
    try clear hfz6_3
    obtain ⟨x3_1,x4_1,rfl,rfl,HA,HK1,BK102,HB⟩:=hrel
    cases gk with
    | zero=>exact absurd HA.out (by simp [spec_l2Put.l0])
    | succ k1 =>
     have H:=HA.out
     clear HA
     simp only [spec_l2Put.l0] at H
     by_cases c8:x4_1 < (l0_2.length:Int)
     ·rw [if_pos c8] at H
      have c8b0:decide (x4_1 < (l0_2.length:Int))=true:=decide_eq_true c8
      clear c8
      by_cases c9:x3_1.size+3≤9223372036854775807
      ·rw [if_pos c9] at H
       have c9b0:=eq_true c9
       have c9b1:decide (x3_1.size+3≤9223372036854775807)=true:=decide_eq_true c9
       try have c9b2:(9223372036854775807 < x3_1.size+3)=False:=eq_false (Nat.not_lt.2 c9)
       by_cases c10:0≤x4_1
       ·rw [if_pos c10] at H
        have c10b0:decide (0≤x4_1)=true:=decide_eq_true c10
        clear c10
        replace H:=Option.bind_eq_some_iff.mp H
        obtain ⟨t105,A110,H⟩:=H
        replace H:(if (x3_1++bz8).size+t105.size≤9223372036854775807 then (if ((x3_1++bz8)++t105).size+2≤9223372036854775807 then (spec_l2Put.l0 k1 (((x3_1++bz8)++t105)++bz3) (wrap64 (x4_1+1)) a0_0 a0_1 l0_2 l0_3) else (none)) else (none))=some r:=H
        have A11:=Aside0.mk A110
        clear A110
        by_cases c12:(x3_1++bz8).size+t105.size≤9223372036854775807
        ·rw [if_pos c12] at H
         have c12b0:=eq_true c12
         have c12b1:decide ((x3_1++bz8).size+t105.size≤9223372036854775807)=true:=decide_eq_true c12
         try have c12b2:(9223372036854775807 < (x3_1++bz8).size+t105.size)=False:=eq_false (Nat.not_lt.2 c12)
         try have c12b3:=c12
         try simp only [ByteArray.size_append',sz1,sz2,sz3,sz4,sz5,sz6,sz7,sz8] at c12b3
         try have c12b4:=eq_true c12b3
         try have c12b5:=eq_false (Nat.not_lt.2 c12b3)
         by_cases c13:((x3_1++bz8)++t105).size+2≤9223372036854775807
         ·rw [if_pos c13] at H
          have c13b0:=eq_true c13
          have c13b1:decide (((x3_1++bz8)++t105).size+2≤9223372036854775807)=true:=decide_eq_true c13
          try have c13b2:(9223372036854775807 < ((x3_1++bz8)++t105).size+2)=False:=eq_false (Nat.not_lt.2 c13)
          try have c13b3:=c13
          try simp only [ByteArray.size_append',sz1,sz2,sz3,sz4,sz5,sz6,sz7,sz8] at c13b3
          try have c13b4:=eq_true c13b3
          try have c13b5:=eq_false (Nat.not_lt.2 c13b3)
          have H':=Aside0.mk H
          clear H
          have hcz14_0:wr.cell? ⟨gb102,0,none⟩=some (.string a0_0):=(zq8 BK102.out 0).trans rfl
          have hcz14_1:wr.cell? ⟨gb102,1,none⟩=some (.string a0_1):=(zq8 BK102.out 1).trans rfl
          have hcz14_2:wr.cell? ⟨gb102,2,none⟩=some (.slice A0_2 l0_2.length c0_2):=(zq8 BK102.out 2).trans rfl
          have hcz14_3:wr.cell? ⟨gb102,3,none⟩=some (.slice A0_3 l0_3.length c0_3):=(zq8 BK102.out 3).trans rfl
          have hfz14_0:=zq6 BK102.out 0
          have hfz14_1:=zq6 BK102.out 1
          have hfz14_2:=zq6 BK102.out 2
          have hfz14_3:=zq6 BK102.out 3
          have p104:0≤(x4_1:Int):=of_decide_eq_true (by first|(with_reducible assumption)|assumption)
          have q104:x4_1 < (l0_2.length:Int):=of_decide_eq_true (by first|(with_reducible assumption)|assumption)
          obtain ⟨ad104,e104,hx104_0,hx104_1⟩:=at_T24 HR0_2.out x4_1 p104 q104
          cases e104
          replace hx104_0:=(HB.out.cell (World.block_lt_of_cell? w _ hx104_0)).trans hx104_0
          replace hx104_1:=(HB.out.cell (World.block_lt_of_cell? w _ hx104_1)).trans hx104_1
          replace p104:=eq_true p104
          replace q104:=eq_true q104
          go_wp2_with (first|((with_reducible refine zq14 (f:=60) rfl ?_);refine zq20 (some 24) rfl rfl Tryz.func60 (by kernel_rfl) rfl #[.agg #[.string ((rd_T24 l0_2 x4_1).f0),.string ((rd_T24 l0_2 x4_1).f1)]] rfl (by (try simp only [List.map_toArray,List.map_cons,List.map_nil]);first|done|rfl|(simp only [List.length_drop,List.length_take];rfl)) ?_;(with_reducible refine (spec_l1Put.calls ((rd_T24 l0_2 x4_1).f0) ((rd_T24 l0_2 x4_1).f1) t105 _ A11.out).mono ?_);rintro e w15 ⟨rfl,hb⟩;refine ⟨_,rfl,?_⟩;have n0_:=Aside0.mk (zq13 (g:=gb102) (o:=.cells #[.string a0_0,.string a0_1,.slice (some ad104) l0_2.length c0_2,.slice A0_3 l0_3.length c0_3] 28 (0,0)) (by (with_reducible repeat (first|refine zq4 ?_ _|refine zq7 ?_|refine zq3 ?_ _));exact BK102.out) hb);have n1_:=Aside0.mk (zq9 (by repeat (first|(with_reducible first|exact HB.out|apply zq1|apply zq0|apply zq2|refine zq5 ?_ GE102.out)|exact HB.out)) hb);clear BK102;clear HB;have BK102:=n0_;have HB:=n1_;clear n0_ n1_;(try clear hb);(try clear hb2);(try clear hk);(try clear hi)))
          go_roundg k1
          case measure=>have:=HK1.out;omega
          case rel=>exact ⟨(((x3_1++bz8)++t105)++bz3),(wrap64 (x4_1+1)),(by first|rfl|(simp;done)|(simp [*];done)),(by first|rfl|(simp;done)|(simp [*];done)),H',⟨by have:=HK1.out;omega⟩,⟨by (with_reducible repeat (first|refine zq4 ?_ _|refine zq7 ?_|refine zq3 ?_ _));exact BK102.out⟩,⟨by repeat (first|(with_reducible first|exact HB.out|apply zq1|apply zq0|apply zq2|refine zq5 ?_ GE102.out)|exact HB.out)⟩⟩
         ·rw [if_neg c13] at H
          exact absurd H (by simp)
        ·rw [if_neg c12] at H
         exact absurd H (by simp)
       ·rw [if_neg c10] at H
        exact absurd H (by simp)
      ·rw [if_neg c9] at H
       exact absurd H (by simp)
     ·rw [if_neg c8] at H
      have c8b0:decide (x4_1 < (l0_2.length:Int))=false:=decide_eq_false c8
      clear c8
      by_cases c16:x3_1.size+2≤9223372036854775807
      ·rw [if_pos c16] at H
       have c16b0:=eq_true c16
       have c16b1:decide (x3_1.size+2≤9223372036854775807)=true:=decide_eq_true c16
       try have c16b2:(9223372036854775807 < x3_1.size+2)=False:=eq_false (Nat.not_lt.2 c16)
       replace H:=Option.bind_eq_some_iff.mp H
       obtain ⟨t106,A170,H⟩:=H
       replace H:(if (x3_1++bz3).size+t106.size≤9223372036854775807 then (some ((x3_1++bz3)++t106)) else (none))=some r:=H
       have A17:=Aside0.mk A170
       clear A170
       by_cases c18:(x3_1++bz3).size+t106.size≤9223372036854775807
       ·rw [if_pos c18] at H
        have c18b0:=eq_true c18
        have c18b1:decide ((x3_1++bz3).size+t106.size≤9223372036854775807)=true:=decide_eq_true c18
        try have c18b2:(9223372036854775807 < (x3_1++bz3).size+t106.size)=False:=eq_false (Nat.not_lt.2 c18)
        try have c18b3:=c18
        try simp only [ByteArray.size_append',sz1,sz2,sz3,sz4,sz5,sz6,sz7,sz8] at c18b3
        try have c18b4:=eq_true c18b3
        try have c18b5:=eq_false (Nat.not_lt.2 c18b3)
        obtain rfl:=Option.some.inj H
        have hcz19_0:wr.cell? ⟨gb102,0,none⟩=some (.string a0_0):=(zq8 BK102.out 0).trans rfl
        have hcz19_1:wr.cell? ⟨gb102,1,none⟩=some (.string a0_1):=(zq8 BK102.out 1).trans rfl
        have hcz19_2:wr.cell? ⟨gb102,2,none⟩=some (.slice A0_2 l0_2.length c0_2):=(zq8 BK102.out 2).trans rfl
        have hcz19_3:wr.cell? ⟨gb102,3,none⟩=some (.slice A0_3 l0_3.length c0_3):=(zq8 BK102.out 3).trans rfl
        have hfz19_0:=zq6 BK102.out 0
        have hfz19_1:=zq6 BK102.out 1
        have hfz19_2:=zq6 BK102.out 2
        have hfz19_3:=zq6 BK102.out 3
        go_wp2_with (first|((with_reducible refine zq14 (f:=61) rfl ?_);refine zq20 (some 31) rfl rfl Tryz.func61 (by kernel_rfl) rfl #[.slice A0_3 l0_3.length c0_3] rfl (by (try simp only [List.map_toArray,List.map_cons,List.map_nil]);first|done|rfl|(simp only [List.length_drop,List.length_take];rfl)) ?_;(with_reducible refine (spec_l2Dots.calls k1 _ _ l0_3 t106 _ ?side1 ?side2 A17.out).mono ?_);(case side1=>repeat (first|exact (Kd.C_below HR0_3.out HB.out)|(with_reducible refine Kd.C_alloc ?_ _)|(with_reducible refine Kd.C_drewN ?_ _)|(with_reducible refine Kd.C_drew ?_)));(case side2=>exact HC0_3.out);rintro e w' ⟨rfl,⟨nd,rfl⟩⟩;refine ⟨_,rfl,?_⟩))
        go_ret
        exact ⟨by first|rfl|(simp [zq11,zq12]<;>rfl)|(simp [*,zq11,zq12]<;>rfl),by repeat (first|(with_reducible first|exact HB.out|apply zq1|apply zq0|apply zq2|refine zq5 ?_ GE102.out)|exact HB.out)⟩
       ·rw [if_neg c18] at H
        exact absurd H (by simp)
      ·rw [if_neg c16] at H
       exact absurd H (by simp)
  ·rw [if_neg c4] at H
   exact absurd H (by simp)
 ·rw [if_neg c3] at H
  exact absurd H (by simp)
def spec_MailPut.f (k:Nat) (a0_0:ByteArray) (a0_1:ByteArray) (l0_2:List (S24)) (l0_3:List ByteArray):Option (ByteArray):=(spec_l2Ok.f k a0_0 a0_1 l0_2 l0_3).bind fun t108=>(if t108=true then ((spec_l2Put.f k a0_0 a0_1 l0_2 l0_3).bind fun t109=>(some t109)) else (some (⟨#[]⟩:ByteArray)))
set_option maxHeartbeats 8000000 in
set_option maxRecDepth 100000 in
theorem spec_MailPut.calls (k:Nat) (a0_0:ByteArray) (a0_1:ByteArray) (A0_2:Option Addr) (c0_2:Nat) (l0_2:List (S24)) (A0_3:Option Addr) (c0_3:Nat) (l0_3:List ByteArray) (r:ByteArray) (w:World) (hr0_2:Kd.C k24 w A0_2 l0_2.length l0_2) (hc0_2:l0_2.length≤c0_2) (hr0_3:Kd.C Kd.string w A0_3 l0_3.length l0_3) (hc0_3:l0_3.length≤c0_3) (h:spec_MailPut.f k a0_0 a0_1 l0_2 l0_3=some r) :
 Calls Tryz.prog 8 #[.agg #[.string a0_0,.string a0_1,.slice A0_2 l0_2.length c0_2,.slice A0_3 l0_3.length c0_3]] w fun e w'=>e=.returned (.string r)∧Below w.heap.size w w':=by
 have hu28:=Tryz.underlying28
 have HR0_2:=Aside0.mk hr0_2
 have HC0_2:=Aside0.mk hc0_2
 clear hr0_2 hc0_2
 have HR0_3:=Aside0.mk hr0_3
 have HC0_3:=Aside0.mk hc0_3
 clear hr0_3 hc0_3
 have HB:=Aside0.mk (Below.refl w.heap.size w)
 have H:((spec_l2Ok.f k a0_0 a0_1 l0_2 l0_3).bind fun t108=>(if t108=true then ((spec_l2Put.f k a0_0 a0_1 l0_2 l0_3).bind fun t109=>(some t109)) else (some bz0)))=some r:=h
 clear h
 replace H:=Option.bind_eq_some_iff.mp H
 obtain ⟨t108,A20,H⟩:=H
 replace H:(if t108=true then ((spec_l2Put.f k a0_0 a0_1 l0_2 l0_3).bind fun t109=>(some t109)) else (some bz0))=some r:=H
 have A2:=Aside0.mk A20
 clear A20
 by_cases c3:t108=true
 ·subst c3
  have H1:((spec_l2Put.f k a0_0 a0_1 l0_2 l0_3).bind fun t109=>(some t109))=some r:=by rw [if_pos rfl] at H;exact H
  clear H
  have H:=H1
  clear H1
  replace H:=Option.bind_eq_some_iff.mp H
  obtain ⟨t109,A40,H⟩:=H
  replace H:(some t109)=some r:=H
  have A4:=Aside0.mk A40
  clear A40
  obtain rfl:=Option.some.inj H
  go_enter Tryz.func8,Tryz.ntmps8
  go_wp2_with (first|((with_reducible refine zq21 (N:=1) rfl ?_);refine zq22 ?hg (N:=1) ?hd (cs:=#[.string a0_0,.string a0_1,.slice A0_2 l0_2.length c0_2,.slice A0_3 l0_3.length c0_3]) (t:=28) ?hr ?_;(case hd=>rfl);(case hg=>rfl);(case hr=>first|(go_simp;done)|(go_simp;rfl));intro gb107 hg w5 hbox hb;have n0_:=Aside0.mk (zq9 (by repeat (first|(with_reducible first|exact HB.out|apply zq1|apply zq0|apply zq2)|exact HB.out)) hb);have n1_:=Aside0.mk (hbox);have n2_:=Aside0.mk ((by rw [hg];exact (zq10 (by repeat (first|(with_reducible first|exact HB.out|apply zq1|apply zq0|apply zq2)|exact HB.out))):w.heap.size≤gb107));have n3_:=Aside0.mk ((by rw [hg];exact (zq10 (by repeat (first|(with_reducible first|exact HB.out|apply zq1|apply zq0|apply zq2)|exact HB.out))):w.heap.size≤gb107));clear HB;have HB:=n0_;have BK107:=n1_;have GW107:=n2_;have GE107:=n3_;clear n0_ n1_ n2_ n3_;clear hb hbox hg;have hcz6_0:w5.cell? ⟨gb107,0,none⟩=some (.string a0_0):=(zq8 BK107.out 0).trans rfl;have hcz6_1:w5.cell? ⟨gb107,1,none⟩=some (.string a0_1):=(zq8 BK107.out 1).trans rfl;have hcz6_2:w5.cell? ⟨gb107,2,none⟩=some (.slice A0_2 l0_2.length c0_2):=(zq8 BK107.out 2).trans rfl;have hcz6_3:w5.cell? ⟨gb107,3,none⟩=some (.slice A0_3 l0_3.length c0_3):=(zq8 BK107.out 3).trans rfl;have hfz6_0:=zq6 BK107.out 0;have hfz6_1:=zq6 BK107.out 1;have hfz6_2:=zq6 BK107.out 2;have hfz6_3:=zq6 BK107.out 3)|((with_reducible refine zq14 (f:=22) rfl ?_);refine zq20 (some 4) rfl rfl Tryz.func22 (by kernel_rfl) rfl #[.agg #[.string a0_0,.string a0_1,.slice A0_2 l0_2.length c0_2,.slice A0_3 l0_3.length c0_3]] rfl (by (try simp only [List.map_toArray,List.map_cons,List.map_nil]);first|done|rfl|(simp only [List.length_drop,List.length_take];rfl)) ?_;(with_reducible refine (spec_l2Ok.calls k a0_0 a0_1 _ _ l0_2 _ _ l0_3 true _ ?side1 ?side2 ?side3 ?side4 A2.out).mono ?_);(case side1=>repeat (first|exact (Kd.C_below HR0_2.out HB.out)|(with_reducible refine Kd.C_alloc ?_ _)|(with_reducible refine Kd.C_drewN ?_ _)|(with_reducible refine Kd.C_drew ?_)));(case side2=>exact HC0_2.out);(case side3=>repeat (first|exact (Kd.C_below HR0_3.out HB.out)|(with_reducible refine Kd.C_alloc ?_ _)|(with_reducible refine Kd.C_drewN ?_ _)|(with_reducible refine Kd.C_drew ?_)));(case side4=>exact HC0_3.out);rintro e w7 ⟨rfl,hb⟩;refine ⟨_,rfl,?_⟩;have n0_:=Aside0.mk (zq13 (g:=gb107) (o:=.cells #[.string a0_0,.string a0_1,.slice A0_2 l0_2.length c0_2,.slice A0_3 l0_3.length c0_3] 28 (0,0)) (by (with_reducible repeat (first|refine zq4 ?_ _|refine zq7 ?_|refine zq3 ?_ _));exact BK107.out) hb);have n1_:=Aside0.mk (zq9 (by repeat (first|(with_reducible first|exact HB.out|apply zq1|apply zq0|apply zq2|refine zq5 ?_ GE107.out)|exact HB.out)) hb);clear BK107;clear HB;have BK107:=n0_;have HB:=n1_;clear n0_ n1_;(try clear hb);(try clear hb2);(try clear hk);(try clear hi);have hcz8_0:w7.cell? ⟨gb107,0,none⟩=some (.string a0_0):=(zq8 BK107.out 0).trans rfl;have hcz8_1:w7.cell? ⟨gb107,1,none⟩=some (.string a0_1):=(zq8 BK107.out 1).trans rfl;have hcz8_2:w7.cell? ⟨gb107,2,none⟩=some (.slice A0_2 l0_2.length c0_2):=(zq8 BK107.out 2).trans rfl;have hcz8_3:w7.cell? ⟨gb107,3,none⟩=some (.slice A0_3 l0_3.length c0_3):=(zq8 BK107.out 3).trans rfl;have hfz8_0:=zq6 BK107.out 0;have hfz8_1:=zq6 BK107.out 1;have hfz8_2:=zq6 BK107.out 2;have hfz8_3:=zq6 BK107.out 3)|((with_reducible refine zq14 (f:=23) rfl ?_);refine zq20 (some 7) rfl rfl Tryz.func23 (by kernel_rfl) rfl #[.agg #[.string a0_0,.string a0_1,.slice A0_2 l0_2.length c0_2,.slice A0_3 l0_3.length c0_3]] rfl (by (try simp only [List.map_toArray,List.map_cons,List.map_nil]);first|done|rfl|(simp only [List.length_drop,List.length_take];rfl)) ?_;(with_reducible refine (spec_l2Put.calls k a0_0 a0_1 _ _ l0_2 _ _ l0_3 t109 _ ?side1 ?side2 ?side3 ?side4 A4.out).mono ?_);(case side1=>repeat (first|exact (Kd.C_below HR0_2.out HB.out)|(with_reducible refine Kd.C_alloc ?_ _)|(with_reducible refine Kd.C_drewN ?_ _)|(with_reducible refine Kd.C_drew ?_)));(case side2=>exact HC0_2.out);(case side3=>repeat (first|exact (Kd.C_below HR0_3.out HB.out)|(with_reducible refine Kd.C_alloc ?_ _)|(with_reducible refine Kd.C_drewN ?_ _)|(with_reducible refine Kd.C_drew ?_)));(case side4=>exact HC0_3.out);rintro e w9 ⟨rfl,hb⟩;refine ⟨_,rfl,?_⟩;have n0_:=Aside0.mk (zq13 (g:=gb107) (o:=.cells #[.string a0_0,.string a0_1,.slice A0_2 l0_2.length c0_2,.slice A0_3 l0_3.length c0_3] 28 (0,0)) (by (with_reducible repeat (first|refine zq4 ?_ _|refine zq7 ?_|refine zq3 ?_ _));exact BK107.out) hb);have n1_:=Aside0.mk (zq9 (by repeat (first|(with_reducible first|exact HB.out|apply zq1|apply zq0|apply zq2|refine zq5 ?_ GE107.out)|exact HB.out)) hb);clear BK107;clear HB;have BK107:=n0_;have HB:=n1_;clear n0_ n1_;(try clear hb);(try clear hb2);(try clear hk);(try clear hi)))
  go_ret
  exact ⟨by first|rfl|(simp [zq11,zq12]<;>rfl)|(simp [*,zq11,zq12]<;>rfl),by repeat (first|(with_reducible first|exact HB.out|apply zq1|apply zq0|apply zq2|refine zq5 ?_ GE107.out)|exact HB.out)⟩
 ·replace c3:=Bool.eq_false_iff.mpr c3
  subst c3
  have H1:(some bz0)=some r:=by rw [if_neg (show ¬ (false=true) by decide)] at H;exact H
  clear H
  have H:=H1
  clear H1
  obtain rfl:=Option.some.inj H
  go_enter Tryz.func8,Tryz.ntmps8
  go_wp2_with (first|((with_reducible refine zq21 (N:=1) rfl ?_);refine zq22 ?hg (N:=1) ?hd (cs:=#[.string a0_0,.string a0_1,.slice A0_2 l0_2.length c0_2,.slice A0_3 l0_3.length c0_3]) (t:=28) ?hr ?_;(case hd=>rfl);(case hg=>rfl);(case hr=>first|(go_simp;done)|(go_simp;rfl));intro gb107 hg w10 hbox hb;have n0_:=Aside0.mk (zq9 (by repeat (first|(with_reducible first|exact HB.out|apply zq1|apply zq0|apply zq2)|exact HB.out)) hb);have n1_:=Aside0.mk (hbox);have n2_:=Aside0.mk ((by rw [hg];exact (zq10 (by repeat (first|(with_reducible first|exact HB.out|apply zq1|apply zq0|apply zq2)|exact HB.out))):w.heap.size≤gb107));have n3_:=Aside0.mk ((by rw [hg];exact (zq10 (by repeat (first|(with_reducible first|exact HB.out|apply zq1|apply zq0|apply zq2)|exact HB.out))):w.heap.size≤gb107));clear HB;have HB:=n0_;have BK107:=n1_;have GW107:=n2_;have GE107:=n3_;clear n0_ n1_ n2_ n3_;clear hb hbox hg;have hcz11_0:w10.cell? ⟨gb107,0,none⟩=some (.string a0_0):=(zq8 BK107.out 0).trans rfl;have hcz11_1:w10.cell? ⟨gb107,1,none⟩=some (.string a0_1):=(zq8 BK107.out 1).trans rfl;have hcz11_2:w10.cell? ⟨gb107,2,none⟩=some (.slice A0_2 l0_2.length c0_2):=(zq8 BK107.out 2).trans rfl;have hcz11_3:w10.cell? ⟨gb107,3,none⟩=some (.slice A0_3 l0_3.length c0_3):=(zq8 BK107.out 3).trans rfl;have hfz11_0:=zq6 BK107.out 0;have hfz11_1:=zq6 BK107.out 1;have hfz11_2:=zq6 BK107.out 2;have hfz11_3:=zq6 BK107.out 3)|((with_reducible refine zq14 (f:=22) rfl ?_);refine zq20 (some 4) rfl rfl Tryz.func22 (by kernel_rfl) rfl #[.agg #[.string a0_0,.string a0_1,.slice A0_2 l0_2.length c0_2,.slice A0_3 l0_3.length c0_3]] rfl (by (try simp only [List.map_toArray,List.map_cons,List.map_nil]);first|done|rfl|(simp only [List.length_drop,List.length_take];rfl)) ?_;(with_reducible refine (spec_l2Ok.calls k a0_0 a0_1 _ _ l0_2 _ _ l0_3 false _ ?side1 ?side2 ?side3 ?side4 A2.out).mono ?_);(case side1=>repeat (first|exact (Kd.C_below HR0_2.out HB.out)|(with_reducible refine Kd.C_alloc ?_ _)|(with_reducible refine Kd.C_drewN ?_ _)|(with_reducible refine Kd.C_drew ?_)));(case side2=>exact HC0_2.out);(case side3=>repeat (first|exact (Kd.C_below HR0_3.out HB.out)|(with_reducible refine Kd.C_alloc ?_ _)|(with_reducible refine Kd.C_drewN ?_ _)|(with_reducible refine Kd.C_drew ?_)));(case side4=>exact HC0_3.out);rintro e w12 ⟨rfl,hb⟩;refine ⟨_,rfl,?_⟩;have n0_:=Aside0.mk (zq13 (g:=gb107) (o:=.cells #[.string a0_0,.string a0_1,.slice A0_2 l0_2.length c0_2,.slice A0_3 l0_3.length c0_3] 28 (0,0)) (by (with_reducible repeat (first|refine zq4 ?_ _|refine zq7 ?_|refine zq3 ?_ _));exact BK107.out) hb);have n1_:=Aside0.mk (zq9 (by repeat (first|(with_reducible first|exact HB.out|apply zq1|apply zq0|apply zq2|refine zq5 ?_ GE107.out)|exact HB.out)) hb);clear BK107;clear HB;have BK107:=n0_;have HB:=n1_;clear n0_ n1_;(try clear hb);(try clear hb2);(try clear hk);(try clear hi)))
  go_ret
  exact ⟨by first|rfl|(simp [zq11,zq12]<;>rfl)|(simp [*,zq11,zq12]<;>rfl),by repeat (first|(with_reducible first|exact HB.out|apply zq1|apply zq0|apply zq2|refine zq5 ?_ GE107.out)|exact HB.out)⟩
def stringslite_HasPrefix.f (a0:ByteArray) (a1:ByteArray):Option (Bool):=if (a0.size:Int)≥(a1.size:Int) then (if 0≤(a1.size:Int) then (if (a1.size:Int)≤(a0.size:Int) then (some ((a0.extract 0 ((a1.size:Int):Int).toNat).toList==a1.toList)) else (none)) else (none)) else (some false)
set_option maxHeartbeats 8000000 in
set_option maxRecDepth 100000 in
theorem stringslite_HasPrefix.calls (a0:ByteArray) (a1:ByteArray) (r:Bool) (w:World) (h:stringslite_HasPrefix.f a0 a1=some r) :
 Calls Tryz.prog 82 #[.string a0,.string a1] w fun e w'=>e=.returned (.bool r)∧Drawn0 w w':=by
 have H:(if (a0.size:Int)≥(a1.size:Int) then (if 0≤(a1.size:Int) then (if (a1.size:Int)≤(a0.size:Int) then (some ((a0.extract 0 ((a1.size:Int):Int).toNat).toList==a1.toList)) else (none)) else (none)) else (some false))=some r:=h
 clear h
 by_cases c3:(a0.size:Int)≥(a1.size:Int)
 ·rw [if_pos c3] at H
  have c3b0:decide ((a1.size:Int)≤(a0.size:Int))=true:=decide_eq_true c3
  have c3b1:decide (a1.size≤a0.size)=true:=decide_eq_true (Int.ofNat_le.mp c3)
  clear c3
  by_cases c4:0≤(a1.size:Int)
  ·rw [if_pos c4] at H
   have c4b0:=eq_true c4
   have c4b1:decide (0≤(a1.size:Int))=true:=decide_eq_true c4
   clear c4
   by_cases c5:(a1.size:Int)≤(a0.size:Int)
   ·rw [if_pos c5] at H
    have c5b0:=eq_true c5
    have c5b1:decide ((a1.size:Int)≤(a0.size:Int))=true:=decide_eq_true c5
    clear c5
    obtain rfl:=Option.some.inj H
    go_enter Tryz.func82,Tryz.ntmps82
    go_wp2
    go_ret
    exact ⟨by first|rfl|(simp;done)|(simp [*];done),by repeat (first|exact Drawn0.refl _|apply Drawn0.step)⟩
   ·rw [if_neg c5] at H
    exact absurd H (by simp)
  ·rw [if_neg c4] at H
   exact absurd H (by simp)
 ·rw [if_neg c3] at H
  have c3b0:decide ((a1.size:Int)≤(a0.size:Int))=false:=decide_eq_false c3
  have c3b1:decide (a1.size≤a0.size)=false:=decide_eq_false (fun h=>c3 (Int.ofNat_le.mpr h))
  clear c3
  obtain rfl:=Option.some.inj H
  go_enter Tryz.func82,Tryz.ntmps82
  go_wp2
  go_ret
  exact ⟨by first|rfl|(simp;done)|(simp [*];done),by repeat (first|exact Drawn0.refl _|apply Drawn0.step)⟩
def stringslite_CutPrefix.f (a0:ByteArray) (a1:ByteArray):Option (ByteArray × Bool):=(stringslite_HasPrefix.f a0 a1).bind fun t101=>(if t101=true then (if 0≤(a1.size:Int) then (if (a1.size:Int)≤(a0.size:Int) then (some (a0.extract ((a1.size:Int):Int).toNat a0.size,true)) else (none)) else (none)) else (some (a0,false)))
set_option maxHeartbeats 8000000 in
set_option maxRecDepth 100000 in
theorem stringslite_CutPrefix.calls (a0:ByteArray) (a1:ByteArray) (r1:ByteArray) (r2:Bool) (w:World) (h:stringslite_CutPrefix.f a0 a1=some (r1,r2)) :
 Calls Tryz.prog 93 #[.string a0,.string a1] w fun e w'=>e=.returned (.tuple #[.string r1,.bool r2])∧Drawn0 w w':=by
 have H:((stringslite_HasPrefix.f a0 a1).bind fun t101=>(if t101=true then (if 0≤(a1.size:Int) then (if (a1.size:Int)≤(a0.size:Int) then (some (a0.extract ((a1.size:Int):Int).toNat a0.size,true)) else (none)) else (none)) else (some (a0,false))))=some (r1,r2):=h
 clear h
 replace H:=Option.bind_eq_some_iff.mp H
 obtain ⟨t101,A30,H⟩:=H
 replace H:(if t101=true then (if 0≤(a1.size:Int) then (if (a1.size:Int)≤(a0.size:Int) then (some (a0.extract ((a1.size:Int):Int).toNat a0.size,true)) else (none)) else (none)) else (some (a0,false)))=some (r1,r2):=H
 have A3:=Aside0.mk A30
 clear A30
 by_cases c4:t101=true
 ·subst c4
  have H1:(if 0≤(a1.size:Int) then (if (a1.size:Int)≤(a0.size:Int) then (some (a0.extract ((a1.size:Int):Int).toNat a0.size,true)) else (none)) else (none))=some (r1,r2):=by rw [if_pos rfl] at H;exact H
  clear H
  have H:=H1
  clear H1
  by_cases c5:0≤(a1.size:Int)
  ·rw [if_pos c5] at H
   have c5b0:=eq_true c5
   have c5b1:decide (0≤(a1.size:Int))=true:=decide_eq_true c5
   clear c5
   by_cases c6:(a1.size:Int)≤(a0.size:Int)
   ·rw [if_pos c6] at H
    have c6b0:=eq_true c6
    have c6b1:decide ((a1.size:Int)≤(a0.size:Int))=true:=decide_eq_true c6
    clear c6
    simp only [Option.some.injEq,Prod.mk.injEq] at H
    obtain ⟨rfl,rfl⟩:=H
    go_enter Tryz.func93,Tryz.ntmps93
    go_wp2_with (first|((with_reducible refine zq14 (f:=82) rfl ?_);refine zq20 (some 8) rfl rfl Tryz.func82 (by kernel_rfl) rfl #[.string a0,.string a1] rfl (by (try simp only [List.map_toArray,List.map_cons,List.map_nil]);first|done|rfl|(simp only [List.length_drop,List.length_take];rfl)) ?_;(with_reducible refine (stringslite_HasPrefix.calls a0 a1 true _ A3.out).mono ?_);rintro e w' ⟨rfl,⟨nd,rfl⟩⟩;refine ⟨_,rfl,?_⟩))
    go_ret2
    exact ⟨by first|rfl|(simp;done)|(simp [*];done),by repeat (first|exact Drawn0.refl _|apply Drawn0.step)⟩
   ·rw [if_neg c6] at H
    exact absurd H (by simp)
  ·rw [if_neg c5] at H
   exact absurd H (by simp)
 ·replace c4:=Bool.eq_false_iff.mpr c4
  subst c4
  have H1:(some (a0,false))=some (r1,r2):=by rw [if_neg (show ¬ (false=true) by decide)] at H;exact H
  clear H
  have H:=H1
  clear H1
  simp only [Option.some.injEq,Prod.mk.injEq] at H
  obtain ⟨rfl,rfl⟩:=H
  go_enter Tryz.func93,Tryz.ntmps93
  go_wp2_with (first|((with_reducible refine zq14 (f:=82) rfl ?_);refine zq20 (some 8) rfl rfl Tryz.func82 (by kernel_rfl) rfl #[.string a0,.string a1] rfl (by (try simp only [List.map_toArray,List.map_cons,List.map_nil]);first|done|rfl|(simp only [List.length_drop,List.length_take];rfl)) ?_;(with_reducible refine (stringslite_HasPrefix.calls a0 a1 false _ A3.out).mono ?_);rintro e w' ⟨rfl,⟨nd,rfl⟩⟩;refine ⟨_,rfl,?_⟩))
  go_ret2
  exact ⟨by first|rfl|(simp;done)|(simp [*];done),by repeat (first|exact Drawn0.refl _|apply Drawn0.step)⟩
def strings_CutPrefix.f (a0:ByteArray) (a1:ByteArray):Option (ByteArray × Bool):=(stringslite_CutPrefix.f a0 a1).bind fun bt102=>(some (bt102.1,bt102.2))
set_option maxHeartbeats 8000000 in
set_option maxRecDepth 100000 in
theorem strings_CutPrefix.calls (a0:ByteArray) (a1:ByteArray) (r1:ByteArray) (r2:Bool) (w:World) (h:strings_CutPrefix.f a0 a1=some (r1,r2)) :
 Calls Tryz.prog 70 #[.string a0,.string a1] w fun e w'=>e=.returned (.tuple #[.string r1,.bool r2])∧Drawn0 w w':=by
 have H:((stringslite_CutPrefix.f a0 a1).bind fun bt102=>(some (bt102.1,bt102.2)))=some (r1,r2):=h
 clear h
 replace H:=Option.bind_eq_some_iff.mp H
 obtain ⟨⟨t102,t103⟩,A30,H⟩:=H
 replace H:(some (t102,t103))=some (r1,r2):=H
 have A3:=Aside0.mk A30
 clear A30
 simp only [Option.some.injEq,Prod.mk.injEq] at H
 obtain ⟨rfl,rfl⟩:=H
 go_enter Tryz.func70,Tryz.ntmps70
 go_wp2_with (first|((with_reducible refine zq14 (f:=93) rfl ?_);refine zq20 (some 8) rfl rfl Tryz.func93 (by kernel_rfl) rfl #[.string a0,.string a1] rfl (by (try simp only [List.map_toArray,List.map_cons,List.map_nil]);first|done|rfl|(simp only [List.length_drop,List.length_take];rfl)) ?_;(with_reducible refine (stringslite_CutPrefix.calls a0 a1 t102 t103 _ A3.out).mono ?_);rintro e w' ⟨rfl,⟨nd,rfl⟩⟩;refine ⟨_,rfl,?_⟩))
 go_ret2
 exact ⟨by first|rfl|(simp;done)|(simp [*];done),by repeat (first|exact Drawn0.refl _|apply Drawn0.step)⟩
def stringslite_HasSuffix.f (a0:ByteArray) (a1:ByteArray):Option (Bool):=if (a0.size:Int)≥(a1.size:Int) then (if 0≤(wrap64 ((a0.size:Int) - (a1.size:Int))) then (if (wrap64 ((a0.size:Int) - (a1.size:Int)))≤(a0.size:Int) then (some ((a0.extract ((wrap64 ((a0.size:Int) - (a1.size:Int))):Int).toNat a0.size).toList==a1.toList)) else (none)) else (none)) else (some false)
set_option maxHeartbeats 8000000 in
set_option maxRecDepth 100000 in
theorem stringslite_HasSuffix.calls (a0:ByteArray) (a1:ByteArray) (r:Bool) (w:World) (h:stringslite_HasSuffix.f a0 a1=some r) :
 Calls Tryz.prog 115 #[.string a0,.string a1] w fun e w'=>e=.returned (.bool r)∧Drawn0 w w':=by
 have H:(if (a0.size:Int)≥(a1.size:Int) then (if 0≤(wrap64 ((a0.size:Int) - (a1.size:Int))) then (if (wrap64 ((a0.size:Int) - (a1.size:Int)))≤(a0.size:Int) then (some ((a0.extract ((wrap64 ((a0.size:Int) - (a1.size:Int))):Int).toNat a0.size).toList==a1.toList)) else (none)) else (none)) else (some false))=some r:=h
 clear h
 by_cases c3:(a0.size:Int)≥(a1.size:Int)
 ·rw [if_pos c3] at H
  have c3b0:decide ((a1.size:Int)≤(a0.size:Int))=true:=decide_eq_true c3
  have c3b1:decide (a1.size≤a0.size)=true:=decide_eq_true (Int.ofNat_le.mp c3)
  clear c3
  obtain ⟨ji4,hji4⟩:∃ j_:Int,(wrap64 ((a0.size:Int) - (a1.size:Int)))=j_:=⟨_,rfl⟩
  replace H:(if 0≤(ji4) then (if (ji4)≤(a0.size:Int) then (some ((a0.extract ((ji4):Int).toNat a0.size).toList==a1.toList)) else (none)) else (none))=some r:=by first|(rw [hji4] at H;exact H)|(simp only [hji4] at H ⊢;exact H)
  have hji4w:(IntKind.i64.wrap ((a0.size:Int) - (a1.size:Int)))=ji4:=(i64_w _).trans hji4
  by_cases c5:0≤(ji4)
  ·rw [if_pos c5] at H
   have c5b0:=eq_true c5
   have c5b1:decide (0≤(ji4))=true:=decide_eq_true c5
   clear c5
   by_cases c6:(ji4)≤(a0.size:Int)
   ·rw [if_pos c6] at H
    have c6b0:=eq_true c6
    have c6b1:decide ((ji4)≤(a0.size:Int))=true:=decide_eq_true c6
    clear c6
    obtain rfl:=Option.some.inj H
    go_enter Tryz.func115,Tryz.ntmps115
    go_wp2
    go_ret
    exact ⟨by first|rfl|(simp;done)|(simp only [← hji4]<;>(first|rfl|simp))|(simp [*];done),by repeat (first|exact Drawn0.refl _|apply Drawn0.step)⟩
   ·rw [if_neg c6] at H
    exact absurd H (by simp)
  ·rw [if_neg c5] at H
   exact absurd H (by simp)
 ·rw [if_neg c3] at H
  have c3b0:decide ((a1.size:Int)≤(a0.size:Int))=false:=decide_eq_false c3
  have c3b1:decide (a1.size≤a0.size)=false:=decide_eq_false (fun h=>c3 (Int.ofNat_le.mpr h))
  clear c3
  obtain rfl:=Option.some.inj H
  go_enter Tryz.func115,Tryz.ntmps115
  go_wp2
  go_ret
  exact ⟨by first|rfl|(simp;done)|(simp [*];done),by repeat (first|exact Drawn0.refl _|apply Drawn0.step)⟩
end Go.Proofs.YthkibaldmjfmmaaGreatDoor.Q
