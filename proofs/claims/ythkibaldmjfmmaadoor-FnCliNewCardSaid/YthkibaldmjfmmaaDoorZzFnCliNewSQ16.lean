/- Of a text of ours what this claim needs. -/
import Derived.Test.YthkibaldmjfmmaaDoorZzFnCliNewSQ0
import Derived.Test.YthkibaldmjfmmaaDoorZzFnCliNewSQ1
import Derived.Test.YthkibaldmjfmmaaDoorZzFnCliNewSQ13
import Derived.Test.YthkibaldmjfmmaaDoorZzFnCliNewSQ14
import Derived.Test.YthkibaldmjfmmaaDoorZzFnCliNewSQ15
namespace Go.Proofs.YthkibaldmjfmmaaDoor.Q
open Go.RowKit Go.Proofs.YthkibaldmjfmmaaDoorW.PrintWords Go.Proofs.YthkibaldmjfmmaaDoorW.PrintLast Go.Proofs.YthkibaldmjfmmaaDoorW.PrintMore
attribute [local go_sem] max2_int min2_int max_two min_two max_three min_three max_four min_four
set_option linter.unusedVariables false
set_option linter.unusedSimpArgs false
attribute [local go_sem high] eqA30
mutual
def spec_l2Ok.l0:Nat→Int→ByteArray→ByteArray→List (S30)→List ByteArray→Option (Bool)
 | 0,_,_,_,_,_=>none
 | k+1,x3,x103000,x103001,x103002,x103003=>if x3 < (x103002.length:Int) then (if 0≤x3 then ((spec_l1AddrOk.f k ((zq26 x103002 x3).f0) ((zq26 x103002 x3).f1)).bind fun t104=>(if t104=true then (spec_l2Ok.l1 k x3 0 x103000 x103001 x103002 x103003) else (some false))) else (none)) else ((spec_l1AddrOk.f k x103000 x103001).bind fun t107=>(if t107=true then ((spec_l1In.f (x103002.length:Int) 1 4).bind fun t108=>(if t108=true then ((spec_l2BodyOk.f k x103003).bind fun t109=>(some t109)) else (some false))) else ((spec_l1Null.f x103000 x103001).bind fun t110=>(if t110=true then ((spec_l1In.f (x103002.length:Int) 1 4).bind fun t111=>(if t111=true then ((spec_l2BodyOk.f k x103003).bind fun t112=>(some t112)) else (some false))) else (some false)))))
def spec_l2Ok.l1:Nat→Int→Int→ByteArray→ByteArray→List (S30)→List ByteArray→Option (Bool)
 | 0,_,_,_,_,_,_=>none
 | k+1,x3,x4,x103000,x103001,x103002,x103003=>if x4 < x3 then (if 0≤x4 then (if x4 < (x103002.length:Int) then (if 0≤x3 then (if x3 < (x103002.length:Int) then (if ((((zq26 x103002 x4).f0).toList)==(((zq26 x103002 x3).f0).toList) && ((((zq26 x103002 x4).f1).toList)==(((zq26 x103002 x3).f1).toList)))=true then (some false) else (spec_l2Ok.l1 k x3 (wrap64 (x4+1)) x103000 x103001 x103002 x103003)) else (none)) else (none)) else (none)) else (none)) else (spec_l2Ok.l0 k (wrap64 (x3+1)) x103000 x103001 x103002 x103003)
end
def spec_l2Ok.f (k:Nat) (a0_0:ByteArray) (a0_1:ByteArray) (l0_2:List (S30)) (l0_3:List ByteArray):Option (Bool):=spec_l2Ok.l0 k 0 a0_0 a0_1 l0_2 l0_3
set_option maxHeartbeats 8000000 in
set_option maxRecDepth 100000 in
theorem spec_l2Ok.calls (k:Nat) (a0_0:ByteArray) (a0_1:ByteArray) (A0_2:Option Addr) (c0_2:Nat) (l0_2:List (S30)) (A0_3:Option Addr) (c0_3:Nat) (l0_3:List ByteArray) (r:Bool) (w:World) (hr0_2:Kd.C k30 w A0_2 l0_2.length l0_2) (hc0_2:l0_2.length≤c0_2) (hr0_3:Kd.C Kd.string w A0_3 l0_3.length l0_3) (hc0_3:l0_3.length≤c0_3) (h:spec_l2Ok.f k a0_0 a0_1 l0_2 l0_3=some r) :
 Calls Tryd.prog 43 #[.agg #[.string a0_0,.string a0_1,.slice A0_2 l0_2.length c0_2,.slice A0_3 l0_3.length c0_3]] w fun e w'=>e=.returned (.bool r)∧Below w.heap.size w w':=by
 have hu33:=Tryd.underlying33
 have hu30:=Tryd.underlying30
 have HR0_2:=zA hr0_2
 have HC0_2:=zA hc0_2
 clear hr0_2 hc0_2
 have HR0_3:=zA hr0_3
 have HC0_3:=zA hc0_3
 clear hr0_3 hc0_3
 have HB:=zA (Below.refl w.heap.size w)
 have H:(spec_l2Ok.l0 k 0 a0_0 a0_1 l0_2 l0_3)=some r:=h
 clear h
 have H':=zA H
 clear H
 go_enter Tryd.func43,Tryd.ntmps43
 go_wp2_with (first|((with_reducible refine zq21 (N:=1) rfl ?_);(try (refine gate_guard (by rfl) ?_;dsimp only));refine zq23 ?hg (N:=1) ?hd (cs:=#[.string a0_0,.string a0_1,.slice A0_2 l0_2.length c0_2,.slice A0_3 l0_3.length c0_3]) (t:=33) ?hr ?_;(case hd=>rfl);(case hg=>rfl);(case hr=>first|(go_simp;done)|(go_simp;rfl));intro gb102 hg w2 hbox hb;have n0_:=zA (zq11 (by repeat (first|(with_reducible first|exact HB.out|apply zq4|apply zq0|apply zq3)|exact HB.out)) hb);have n1_:=zA (hbox);have n2_:=zA ((by rw [hg];exact (zq14 (by repeat (first|(with_reducible first|exact HB.out|apply zq4|apply zq0|apply zq3)|exact HB.out))):w.heap.size≤gb102));have n3_:=zA ((by rw [hg];exact (zq14 (by repeat (first|(with_reducible first|exact HB.out|apply zq4|apply zq0|apply zq3)|exact HB.out))):w.heap.size≤gb102));clear HB;have HB:=n0_;have BK102:=n1_;have GW102:=n2_;have GE102:=n3_;clear n0_ n1_ n2_ n3_;clear hb hbox hg))
 repeat (go_quiet (first|((with_reducible refine zq21 (N:=1) rfl ?_);(try (refine gate_guard (by rfl) ?_;dsimp only));refine zq23 ?hg (N:=1) ?hd (cs:=#[.string a0_0,.string a0_1,.slice A0_2 l0_2.length c0_2,.slice A0_3 l0_3.length c0_3]) (t:=33) ?hr ?_;(case hd=>rfl);(case hg=>rfl);(case hr=>first|(go_simp;done)|(go_simp;rfl));intro gb102 hg w2 hbox hb;have n0_:=zA (zq11 (by repeat (first|(with_reducible first|exact HB.out|apply zq4|apply zq0|apply zq3)|exact HB.out)) hb);have n1_:=zA (hbox);have n2_:=zA ((by rw [hg];exact (zq14 (by repeat (first|(with_reducible first|exact HB.out|apply zq4|apply zq0|apply zq3)|exact HB.out))):w.heap.size≤gb102));have n3_:=zA ((by rw [hg];exact (zq14 (by repeat (first|(with_reducible first|exact HB.out|apply zq4|apply zq0|apply zq3)|exact HB.out))):w.heap.size≤gb102));clear HB;have HB:=n0_;have BK102:=n1_;have GW102:=n2_;have GE102:=n3_;clear n0_ n1_ n2_ n3_;clear hb hbox hg));try go_wp2_with (first|((with_reducible refine zq21 (N:=1) rfl ?_);(try (refine gate_guard (by rfl) ?_;dsimp only));refine zq23 ?hg (N:=1) ?hd (cs:=#[.string a0_0,.string a0_1,.slice A0_2 l0_2.length c0_2,.slice A0_3 l0_3.length c0_3]) (t:=33) ?hr ?_;(case hd=>rfl);(case hg=>rfl);(case hr=>first|(go_simp;done)|(go_simp;rfl));intro gb102 hg w2 hbox hb;have n0_:=zA (zq11 (by repeat (first|(with_reducible first|exact HB.out|apply zq4|apply zq0|apply zq3)|exact HB.out)) hb);have n1_:=zA (hbox);have n2_:=zA ((by rw [hg];exact (zq14 (by repeat (first|(with_reducible first|exact HB.out|apply zq4|apply zq0|apply zq3)|exact HB.out))):w.heap.size≤gb102));have n3_:=zA ((by rw [hg];exact (zq14 (by repeat (first|(with_reducible first|exact HB.out|apply zq4|apply zq0|apply zq3)|exact HB.out))):w.heap.size≤gb102));clear HB;have HB:=n0_;have BK102:=n1_;have GW102:=n2_;have GE102:=n3_;clear n0_ n1_ n2_ n3_;clear hb hbox hg)))
 go_loopg [3] k (fun kq v3 w'=>∃ (x3_1:Int),v3=.int .i64 x3_1∧Aside0 (spec_l2Ok.l0 kq x3_1 a0_0 a0_1 l0_2 l0_3=some r)∧Aside0 (kq≤k)∧Aside0 (w'.heap[gb102]?=some (.cells #[.string a0_0,.string a0_1,(.slice A0_2 l0_2.length c0_2),(.slice A0_3 l0_3.length c0_3)] 33 (0,0)))∧Aside0 (Below w.heap.size w w'))
 case atStart=>exact ⟨(0),(by first|rfl|(simp;done)|(simp [*];done)),H',⟨Nat.le_refl _⟩,⟨by (with_reducible repeat (first|refine zq6 ?_ _|refine zq8 ?_|refine zq5 ?_ _));exact BK102.out⟩,⟨by repeat (first|(with_reducible first|exact HB.out|apply zq4|apply zq0|apply zq3|refine zq2 ?_ GE102.out)|exact HB.out)⟩⟩
 case round =>
  clear H'
  try clear p2
  obtain ⟨x3_1,rfl,HA,HK1,BK102,HB⟩:=hrel
  cases gk with
  | zero=>exact absurd HA.out (by simp [spec_l2Ok.l0])
  | succ k1 =>
   have H:=HA.out
   clear HA
   simp only [spec_l2Ok.l0] at H
   by_cases c3:x3_1 < (l0_2.length:Int)
   ·rw [if_pos c3] at H
    have c3b0:decide (x3_1 < (l0_2.length:Int))=true:=decide_eq_true c3
    clear c3
    by_cases c4:0≤x3_1
    ·rw [if_pos c4] at H
     have c4b0:decide (0≤x3_1)=true:=decide_eq_true c4
     clear c4
     replace H:=Option.bind_eq_some_iff.mp H
     obtain ⟨t104,A50,H⟩:=H
     replace H:(if t104=true then (spec_l2Ok.l1 k1 x3_1 0 a0_0 a0_1 l0_2 l0_3) else (some false))=some r:=H
     have A5:=zA A50
     clear A50
     by_cases c6:t104=true
     ·subst c6
      have H1:(spec_l2Ok.l1 k1 x3_1 0 a0_0 a0_1 l0_2 l0_3)=some r:=by rw [if_pos rfl] at H;exact H
      clear H
      have H:=H1
      clear H1
      have H':=zA H
      clear H
      have hcz7_0:wr.cell? ⟨gb102,0,none⟩=some (.string a0_0):=zq1 BK102.out 0
      have hcz7_1:wr.cell? ⟨gb102,1,none⟩=some (.string a0_1):=zq1 BK102.out 1
      have hcz7_2:wr.cell? ⟨gb102,2,none⟩=some (.slice A0_2 l0_2.length c0_2):=zq1 BK102.out 2
      have hcz7_3:wr.cell? ⟨gb102,3,none⟩=some (.slice A0_3 l0_3.length c0_3):=zq1 BK102.out 3
      have hfz7_0:=zq7 BK102.out 0
      have hfz7_1:=zq7 BK102.out 1
      have hfz7_2:=zq7 BK102.out 2
      have hfz7_3:=zq7 BK102.out 3
      have p103:0≤(x3_1:Int):=of_decide_eq_true (by first|(with_reducible assumption)|assumption)
      have q103:x3_1 < (l0_2.length:Int):=of_decide_eq_true (by first|(with_reducible assumption)|assumption)
      obtain ⟨ad103,e103,hx103_0,hx103_1⟩:=at_T30 HR0_2.out x3_1 p103 q103
      cases e103
      replace hx103_0:=(HB.out.cell (World.block_lt_of_cell? w _ hx103_0)).trans hx103_0
      replace hx103_1:=(HB.out.cell (World.block_lt_of_cell? w _ hx103_1)).trans hx103_1
      replace p103:=eq_true p103
      replace q103:=eq_true q103
      go_wp2_with (first|(go_at_call 66;(with_reducible refine (spec_l1AddrOk.calls k1 ((zq26 l0_2 x3_1).f0) ((zq26 l0_2 x3_1).f1) true _ A5.out).mono ?_);rintro e w8 ⟨rfl,hb⟩;have n0_:=zA (zq13 (by (with_reducible repeat (first|refine zq6 ?_ _|refine zq8 ?_|refine zq5 ?_ _));exact BK102.out) hb);have n1_:=zA (zq11 (by repeat (first|(with_reducible first|exact HB.out|apply zq4|apply zq0|apply zq3|refine zq2 ?_ GE102.out)|exact HB.out)) hb);clear BK102;clear HB;have BK102:=n0_;have HB:=n1_;clear n0_ n1_;(try clear hb)))
      repeat (go_quiet (first|(go_at_call 66;(with_reducible refine (spec_l1AddrOk.calls k1 ((zq26 l0_2 x3_1).f0) ((zq26 l0_2 x3_1).f1) true _ A5.out).mono ?_);rintro e w8 ⟨rfl,hb⟩;have n0_:=zA (zq13 (by (with_reducible repeat (first|refine zq6 ?_ _|refine zq8 ?_|refine zq5 ?_ _));exact BK102.out) hb);have n1_:=zA (zq11 (by repeat (first|(with_reducible first|exact HB.out|apply zq4|apply zq0|apply zq3|refine zq2 ?_ GE102.out)|exact HB.out)) hb);clear BK102;clear HB;have BK102:=n0_;have HB:=n1_;clear n0_ n1_;(try clear hb)));try go_wp2_with (first|(go_at_call 66;(with_reducible refine (spec_l1AddrOk.calls k1 ((zq26 l0_2 x3_1).f0) ((zq26 l0_2 x3_1).f1) true _ A5.out).mono ?_);rintro e w8 ⟨rfl,hb⟩;have n0_:=zA (zq13 (by (with_reducible repeat (first|refine zq6 ?_ _|refine zq8 ?_|refine zq5 ?_ _));exact BK102.out) hb);have n1_:=zA (zq11 (by repeat (first|(with_reducible first|exact HB.out|apply zq4|apply zq0|apply zq3|refine zq2 ?_ GE102.out)|exact HB.out)) hb);clear BK102;clear HB;have BK102:=n0_;have HB:=n1_;clear n0_ n1_;(try clear hb))))
      go_loopg [4] k1 (fun kq v4 w'=>∃ (x4_2:Int),v4=.int .i64 x4_2∧Aside0 (spec_l2Ok.l1 kq x3_1 x4_2 a0_0 a0_1 l0_2 l0_3=some r)∧Aside0 (kq≤k1)∧Aside0 (w'.heap[gb102]?=some (.cells #[.string a0_0,.string a0_1,(.slice (some ad103) l0_2.length c0_2),(.slice A0_3 l0_3.length c0_3)] 33 (0,0)))∧Aside0 (Below w.heap.size w w'))
      case atStart=>exact ⟨(0),(by first|rfl|(simp;done)|(simp [*];done)),H',⟨Nat.le_refl _⟩,⟨by (with_reducible repeat (first|refine zq6 ?_ _|refine zq8 ?_|refine zq5 ?_ _));exact BK102.out⟩,⟨by repeat (first|(with_reducible first|exact HB.out|apply zq4|apply zq0|apply zq3|refine zq2 ?_ GE102.out)|exact HB.out)⟩⟩
      case round =>
       clear H'
       try clear p1
       try clear q1
       try clear hx1
       try clear p2
       try clear c3
       try clear c3b0
       try clear c4
       try clear c4b0
       try clear c6
       try clear hcz7_0
       try clear hcz7_1
       try clear hcz7_2
       try clear hcz7_3
       try clear hfz7_0
       try clear hfz7_1
       try clear hfz7_2
       try clear hfz7_3
       try clear hx103_0
       try clear hx103_1
       try clear p103
       try clear p2
       try clear q103
       obtain ⟨x4_2,rfl,HA,HK2,BK102,HB⟩:=hrel
       cases gk with
       | zero=>exact absurd HA.out (by simp [spec_l2Ok.l1])
       | succ k2 =>
        have H:=HA.out
        clear HA
        simp only [spec_l2Ok.l1] at H
        by_cases c9:x4_2 < x3_1
        ·rw [if_pos c9] at H
         have c9b0:decide (x4_2 < x3_1)=true:=decide_eq_true c9
         clear c9
         by_cases c10:0≤x4_2
         ·rw [if_pos c10] at H
          have c10b0:decide (0≤x4_2)=true:=decide_eq_true c10
          clear c10
          by_cases c11:x4_2 < (l0_2.length:Int)
          ·rw [if_pos c11] at H
           have c11b0:decide (x4_2 < (l0_2.length:Int))=true:=decide_eq_true c11
           clear c11
           by_cases c12:0≤x3_1
           ·rw [if_pos c12] at H
            have c12b0:decide (0≤x3_1)=true:=decide_eq_true c12
            clear c12
            by_cases c13:x3_1 < (l0_2.length:Int)
            ·rw [if_pos c13] at H
             have c13b0:decide (x3_1 < (l0_2.length:Int))=true:=decide_eq_true c13
             clear c13
             by_cases c14:((((zq26 l0_2 x4_2).f0).toList)==(((zq26 l0_2 x3_1).f0).toList) && ((((zq26 l0_2 x4_2).f1).toList)==(((zq26 l0_2 x3_1).f1).toList)))=true
             ·rw [if_pos c14] at H
              have c14b0:((((zq26 l0_2 x4_2).f0).toList)==(((zq26 l0_2 x3_1).f0).toList) && ((((zq26 l0_2 x4_2).f1).toList)==(((zq26 l0_2 x3_1).f1).toList)))=true:=c14
              (try (have c14b1:decide ((((zq26 l0_2 x4_2).f0).toList)=(((zq26 l0_2 x3_1).f0).toList) && ((((zq26 l0_2 x4_2).f1).toList)==(((zq26 l0_2 x3_1).f1).toList)))=true:=by simpa using c14))
              (try (have c14b2:((((zq26 l0_2 x4_2).f0).toList)==(((zq26 l0_2 x3_1).f0).toList) && ((((zq26 l0_2 x4_2).f1).toList)==(((zq26 l0_2 x3_1).f1).toList)))=true:=by simpa using c14))
              clear c14
              obtain rfl:=Option.some.inj H
              have hcz15_0:wr.cell? ⟨gb102,0,none⟩=some (.string a0_0):=zq1 BK102.out 0
              have hcz15_1:wr.cell? ⟨gb102,1,none⟩=some (.string a0_1):=zq1 BK102.out 1
              have hcz15_2:wr.cell? ⟨gb102,2,none⟩=some (.slice (some ad103) l0_2.length c0_2):=zq1 BK102.out 2
              have hcz15_3:wr.cell? ⟨gb102,3,none⟩=some (.slice A0_3 l0_3.length c0_3):=zq1 BK102.out 3
              have hfz15_0:=zq7 BK102.out 0
              have hfz15_1:=zq7 BK102.out 1
              have hfz15_2:=zq7 BK102.out 2
              have hfz15_3:=zq7 BK102.out 3
              have p105:0≤(x4_2:Int):=of_decide_eq_true (by first|(with_reducible assumption)|assumption)
              have q105:x4_2 < (l0_2.length:Int):=of_decide_eq_true (by first|(with_reducible assumption)|assumption)
              obtain ⟨ad105,e105,hx105_0,hx105_1⟩:=at_T30 HR0_2.out x4_2 p105 q105
              obtain rfl:ad103=ad105:=(by injection e105)
              replace hx105_0:=(HB.out.cell (World.block_lt_of_cell? w _ hx105_0)).trans hx105_0
              replace hx105_1:=(HB.out.cell (World.block_lt_of_cell? w _ hx105_1)).trans hx105_1
              replace p105:=eq_true p105
              replace q105:=eq_true q105
              have p106:0≤(x3_1:Int):=of_decide_eq_true (by first|(with_reducible assumption)|assumption)
              have q106:x3_1 < (l0_2.length:Int):=of_decide_eq_true (by first|(with_reducible assumption)|assumption)
              obtain ⟨ad106,e106,hx106_0,hx106_1⟩:=at_T30 HR0_2.out x3_1 p106 q106
              obtain rfl:ad103=ad106:=(by injection e106)
              replace hx106_0:=(HB.out.cell (World.block_lt_of_cell? w _ hx106_0)).trans hx106_0
              replace hx106_1:=(HB.out.cell (World.block_lt_of_cell? w _ hx106_1)).trans hx106_1
              replace p106:=eq_true p106
              replace q106:=eq_true q106
              go_wp2
              repeat (go_quiet (fail);try go_wp2)
              go_ret
              exact ⟨by first|rfl|(simp [zq16,zq17]<;>rfl)|(simp [*,zq16,zq17]<;>rfl),by repeat (first|(with_reducible first|exact HB.out|apply zq4|apply zq0|apply zq3|refine zq2 ?_ GE102.out)|exact HB.out)⟩
             ·rw [if_neg c14] at H
              have c14b0:((((zq26 l0_2 x4_2).f0).toList)==(((zq26 l0_2 x3_1).f0).toList) && ((((zq26 l0_2 x4_2).f1).toList)==(((zq26 l0_2 x3_1).f1).toList)))=false:=by simpa using c14
              (try (have c14b1:decide ((((zq26 l0_2 x4_2).f0).toList)=(((zq26 l0_2 x3_1).f0).toList) && ((((zq26 l0_2 x4_2).f1).toList)==(((zq26 l0_2 x3_1).f1).toList)))=false:=by simpa using c14))
              (try (have c14b2:((((zq26 l0_2 x4_2).f0).toList)==(((zq26 l0_2 x3_1).f0).toList) && ((((zq26 l0_2 x4_2).f1).toList)==(((zq26 l0_2 x3_1).f1).toList)))=false:=by simpa using c14))
              (try (have c14b3:¬ ((((zq26 l0_2 x4_2).f0).toList)=(((zq26 l0_2 x3_1).f0).toList) && ((((zq26 l0_2 x4_2).f1).toList)==(((zq26 l0_2 x3_1).f1).toList))):=by simpa using c14))
              clear c14
              have H':=zA H
              clear H
              have hcz16_0:wr.cell? ⟨gb102,0,none⟩=some (.string a0_0):=zq1 BK102.out 0
              have hcz16_1:wr.cell? ⟨gb102,1,none⟩=some (.string a0_1):=zq1 BK102.out 1
              have hcz16_2:wr.cell? ⟨gb102,2,none⟩=some (.slice (some ad103) l0_2.length c0_2):=zq1 BK102.out 2
              have hcz16_3:wr.cell? ⟨gb102,3,none⟩=some (.slice A0_3 l0_3.length c0_3):=zq1 BK102.out 3
              have hfz16_0:=zq7 BK102.out 0
              have hfz16_1:=zq7 BK102.out 1
              have hfz16_2:=zq7 BK102.out 2
              have hfz16_3:=zq7 BK102.out 3
              have p105:0≤(x4_2:Int):=of_decide_eq_true (by first|(with_reducible assumption)|assumption)
              have q105:x4_2 < (l0_2.length:Int):=of_decide_eq_true (by first|(with_reducible assumption)|assumption)
              obtain ⟨ad105,e105,hx105_0,hx105_1⟩:=at_T30 HR0_2.out x4_2 p105 q105
              obtain rfl:ad103=ad105:=(by injection e105)
              replace hx105_0:=(HB.out.cell (World.block_lt_of_cell? w _ hx105_0)).trans hx105_0
              replace hx105_1:=(HB.out.cell (World.block_lt_of_cell? w _ hx105_1)).trans hx105_1
              replace p105:=eq_true p105
              replace q105:=eq_true q105
              have p106:0≤(x3_1:Int):=of_decide_eq_true (by first|(with_reducible assumption)|assumption)
              have q106:x3_1 < (l0_2.length:Int):=of_decide_eq_true (by first|(with_reducible assumption)|assumption)
              obtain ⟨ad106,e106,hx106_0,hx106_1⟩:=at_T30 HR0_2.out x3_1 p106 q106
              obtain rfl:ad103=ad106:=(by injection e106)
              replace hx106_0:=(HB.out.cell (World.block_lt_of_cell? w _ hx106_0)).trans hx106_0
              replace hx106_1:=(HB.out.cell (World.block_lt_of_cell? w _ hx106_1)).trans hx106_1
              replace p106:=eq_true p106
              replace q106:=eq_true q106
              go_wp2
              repeat (go_quiet (fail);try go_wp2)
              go_roundg k2
              case measure=>have:=HK1.out;have:=HK2.out;omega
              case rel=>exact ⟨(wrap64 (x4_2+1)),(by first|rfl|(simp;done)|(simp [*];done)),H',⟨by have:=HK1.out;have:=HK2.out;omega⟩,⟨by (with_reducible repeat (first|refine zq6 ?_ _|refine zq8 ?_|refine zq5 ?_ _));exact BK102.out⟩,⟨by repeat (first|(with_reducible first|exact HB.out|apply zq4|apply zq0|apply zq3|refine zq2 ?_ GE102.out)|exact HB.out)⟩⟩
            ·rw [if_neg c13] at H
             exact absurd H (by simp)
           ·rw [if_neg c12] at H
            exact absurd H (by simp)
          ·rw [if_neg c11] at H
           exact absurd H (by simp)
         ·rw [if_neg c10] at H
          exact absurd H (by simp)
        ·rw [if_neg c9] at H
         have c9b0:decide (x4_2 < x3_1)=false:=decide_eq_false c9
         clear c9
         have H':=zA H
         clear H
         go_wp2
         repeat (go_quiet (fail);try go_wp2)
         go_roundg k2
         case measure=>have:=HK1.out;have:=HK2.out;omega
         case rel=>exact ⟨(wrap64 (x3_1+1)),(by first|rfl|(simp;done)|(simp [*];done)),H',⟨by have:=HK1.out;have:=HK2.out;omega⟩,⟨by (with_reducible repeat (first|refine zq6 ?_ _|refine zq8 ?_|refine zq5 ?_ _));exact BK102.out⟩,⟨by repeat (first|(with_reducible first|exact HB.out|apply zq4|apply zq0|apply zq3|refine zq2 ?_ GE102.out)|exact HB.out)⟩⟩
     ·replace c6:=Bool.eq_false_iff.mpr c6
      subst c6
      have H1:(some false)=some r:=by rw [if_neg (show ¬ (false=true) by decide)] at H;exact H
      clear H
      have H:=H1
      clear H1
      obtain rfl:=Option.some.inj H
      have hcz17_0:wr.cell? ⟨gb102,0,none⟩=some (.string a0_0):=zq1 BK102.out 0
      have hcz17_1:wr.cell? ⟨gb102,1,none⟩=some (.string a0_1):=zq1 BK102.out 1
      have hcz17_2:wr.cell? ⟨gb102,2,none⟩=some (.slice A0_2 l0_2.length c0_2):=zq1 BK102.out 2
      have hcz17_3:wr.cell? ⟨gb102,3,none⟩=some (.slice A0_3 l0_3.length c0_3):=zq1 BK102.out 3
      have hfz17_0:=zq7 BK102.out 0
      have hfz17_1:=zq7 BK102.out 1
      have hfz17_2:=zq7 BK102.out 2
      have hfz17_3:=zq7 BK102.out 3
      have p103:0≤(x3_1:Int):=of_decide_eq_true (by first|(with_reducible assumption)|assumption)
      have q103:x3_1 < (l0_2.length:Int):=of_decide_eq_true (by first|(with_reducible assumption)|assumption)
      obtain ⟨ad103,e103,hx103_0,hx103_1⟩:=at_T30 HR0_2.out x3_1 p103 q103
      cases e103
      replace hx103_0:=(HB.out.cell (World.block_lt_of_cell? w _ hx103_0)).trans hx103_0
      replace hx103_1:=(HB.out.cell (World.block_lt_of_cell? w _ hx103_1)).trans hx103_1
      replace p103:=eq_true p103
      replace q103:=eq_true q103
      go_wp2_with (first|(go_at_call 66;(with_reducible refine (spec_l1AddrOk.calls k1 ((zq26 l0_2 x3_1).f0) ((zq26 l0_2 x3_1).f1) false _ A5.out).mono ?_);rintro e w18 ⟨rfl,hb⟩;have n0_:=zA (zq13 (by (with_reducible repeat (first|refine zq6 ?_ _|refine zq8 ?_|refine zq5 ?_ _));exact BK102.out) hb);have n1_:=zA (zq11 (by repeat (first|(with_reducible first|exact HB.out|apply zq4|apply zq0|apply zq3|refine zq2 ?_ GE102.out)|exact HB.out)) hb);clear BK102;clear HB;have BK102:=n0_;have HB:=n1_;clear n0_ n1_;(try clear hb)))
      repeat (go_quiet (first|(go_at_call 66;(with_reducible refine (spec_l1AddrOk.calls k1 ((zq26 l0_2 x3_1).f0) ((zq26 l0_2 x3_1).f1) false _ A5.out).mono ?_);rintro e w18 ⟨rfl,hb⟩;have n0_:=zA (zq13 (by (with_reducible repeat (first|refine zq6 ?_ _|refine zq8 ?_|refine zq5 ?_ _));exact BK102.out) hb);have n1_:=zA (zq11 (by repeat (first|(with_reducible first|exact HB.out|apply zq4|apply zq0|apply zq3|refine zq2 ?_ GE102.out)|exact HB.out)) hb);clear BK102;clear HB;have BK102:=n0_;have HB:=n1_;clear n0_ n1_;(try clear hb)));try go_wp2_with (first|(go_at_call 66;(with_reducible refine (spec_l1AddrOk.calls k1 ((zq26 l0_2 x3_1).f0) ((zq26 l0_2 x3_1).f1) false _ A5.out).mono ?_);rintro e w18 ⟨rfl,hb⟩;have n0_:=zA (zq13 (by (with_reducible repeat (first|refine zq6 ?_ _|refine zq8 ?_|refine zq5 ?_ _));exact BK102.out) hb);have n1_:=zA (zq11 (by repeat (first|(with_reducible first|exact HB.out|apply zq4|apply zq0|apply zq3|refine zq2 ?_ GE102.out)|exact HB.out)) hb);clear BK102;clear HB;have BK102:=n0_;have HB:=n1_;clear n0_ n1_;(try clear hb))))
      go_ret
      exact ⟨by first|rfl|(simp [zq16,zq17]<;>rfl)|(simp [*,zq16,zq17]<;>rfl),by repeat (first|(with_reducible first|exact HB.out|apply zq4|apply zq0|apply zq3|refine zq2 ?_ GE102.out)|exact HB.out)⟩
    ·rw [if_neg c4] at H
     exact absurd H (by simp)
   ·rw [if_neg c3] at H
    have c3b0:decide (x3_1 < (l0_2.length:Int))=false:=decide_eq_false c3
    clear c3
    replace H:=Option.bind_eq_some_iff.mp H
    obtain ⟨t107,A190,H⟩:=H
    replace H:(if t107=true then ((spec_l1In.f (l0_2.length:Int) 1 4).bind fun t108=>(if t108=true then ((spec_l2BodyOk.f k1 l0_3).bind fun t109=>(some t109)) else (some false))) else ((spec_l1Null.f a0_0 a0_1).bind fun t110=>(if t110=true then ((spec_l1In.f (l0_2.length:Int) 1 4).bind fun t111=>(if t111=true then ((spec_l2BodyOk.f k1 l0_3).bind fun t112=>(some t112)) else (some false))) else (some false))))=some r:=H
    have A19:=zA A190
    clear A190
    by_cases c20:t107=true
    ·subst c20
     have H1:((spec_l1In.f (l0_2.length:Int) 1 4).bind fun t108=>(if t108=true then ((spec_l2BodyOk.f k1 l0_3).bind fun t109=>(some t109)) else (some false)))=some r:=by rw [if_pos rfl] at H;exact H
     clear H
     have H:=H1
     clear H1
     replace H:=Option.bind_eq_some_iff.mp H
     obtain ⟨t108,A210,H⟩:=H
     replace H:(if t108=true then ((spec_l2BodyOk.f k1 l0_3).bind fun t109=>(some t109)) else (some false))=some r:=H
     have A21:=zA A210
     clear A210
     by_cases c22:t108=true
     ·subst c22
      have H1:((spec_l2BodyOk.f k1 l0_3).bind fun t109=>(some t109))=some r:=by rw [if_pos rfl] at H;exact H
      clear H
      have H:=H1
      clear H1
      replace H:=Option.bind_eq_some_iff.mp H
      obtain ⟨t109,A230,H⟩:=H
      replace H:(some t109)=some r:=H
      have A23:=zA A230
      clear A230
      obtain rfl:=Option.some.inj H
      have hcz24_0:wr.cell? ⟨gb102,0,none⟩=some (.string a0_0):=zq1 BK102.out 0
      have hcz24_1:wr.cell? ⟨gb102,1,none⟩=some (.string a0_1):=zq1 BK102.out 1
      have hcz24_2:wr.cell? ⟨gb102,2,none⟩=some (.slice A0_2 l0_2.length c0_2):=zq1 BK102.out 2
      have hcz24_3:wr.cell? ⟨gb102,3,none⟩=some (.slice A0_3 l0_3.length c0_3):=zq1 BK102.out 3
      have hfz24_0:=zq7 BK102.out 0
      have hfz24_1:=zq7 BK102.out 1
      have hfz24_2:=zq7 BK102.out 2
      have hfz24_3:=zq7 BK102.out 3
      go_wp2_with (first|(go_at_call 66;(with_reducible refine (spec_l1AddrOk.calls k1 a0_0 a0_1 true _ A19.out).mono ?_);rintro e w25 ⟨rfl,hb⟩;have n0_:=zA (zq13 (by (with_reducible repeat (first|refine zq6 ?_ _|refine zq8 ?_|refine zq5 ?_ _));exact BK102.out) hb);have n1_:=zA (zq11 (by repeat (first|(with_reducible first|exact HB.out|apply zq4|apply zq0|apply zq3|refine zq2 ?_ GE102.out)|exact HB.out)) hb);clear BK102;clear HB;have BK102:=n0_;have HB:=n1_;clear n0_ n1_;(try clear hb);have hcz26_0:w25.cell? ⟨gb102,0,none⟩=some (.string a0_0):=zq1 BK102.out 0;have hcz26_1:w25.cell? ⟨gb102,1,none⟩=some (.string a0_1):=zq1 BK102.out 1;have hcz26_2:w25.cell? ⟨gb102,2,none⟩=some (.slice A0_2 l0_2.length c0_2):=zq1 BK102.out 2;have hcz26_3:w25.cell? ⟨gb102,3,none⟩=some (.slice A0_3 l0_3.length c0_3):=zq1 BK102.out 3;have hfz26_0:=zq7 BK102.out 0;have hfz26_1:=zq7 BK102.out 1;have hfz26_2:=zq7 BK102.out 2;have hfz26_3:=zq7 BK102.out 3)|(go_at_call 92;(with_reducible refine (spec_l1In.calls (l0_2.length:Int) 1 4 true _ A21.out).mono ?_);rintro e w' ⟨rfl,⟨nd,rfl⟩⟩;(try first|exact ⟨rfl,_,World.drewN_drewN _ _ _⟩|exact ⟨rfl,_,Eq.trans (World.drewN_drewN _ _ _) (congrArg (World.drewN _) (Nat.add_assoc _ _ _))⟩))|(go_at_call 93;(with_reducible refine (spec_l2BodyOk.calls k1 _ _ l0_3 t109 _ ?side1 ?side2 A23.out).mono ?_);(case side1=>repeat (first|exact (Kd.z1 HR0_3.out (by repeat (first|(with_reducible first|exact HB.out|apply zq4|apply zq0|apply zq3|refine zq2 ?_ GE102.out)|exact HB.out)))|(with_reducible refine Kd.z0 ?_ _)|(with_reducible refine Kd.z3 ?_ _)|(with_reducible refine Kd.z2 ?_)));(case side2=>exact HC0_3.out);rintro e w' ⟨rfl,⟨nd,rfl⟩⟩;(try first|exact ⟨rfl,_,World.drewN_drewN _ _ _⟩|exact ⟨rfl,_,Eq.trans (World.drewN_drewN _ _ _) (congrArg (World.drewN _) (Nat.add_assoc _ _ _))⟩)))
      repeat (go_quiet (first|(go_at_call 66;(with_reducible refine (spec_l1AddrOk.calls k1 a0_0 a0_1 true _ A19.out).mono ?_);rintro e w25 ⟨rfl,hb⟩;have n0_:=zA (zq13 (by (with_reducible repeat (first|refine zq6 ?_ _|refine zq8 ?_|refine zq5 ?_ _));exact BK102.out) hb);have n1_:=zA (zq11 (by repeat (first|(with_reducible first|exact HB.out|apply zq4|apply zq0|apply zq3|refine zq2 ?_ GE102.out)|exact HB.out)) hb);clear BK102;clear HB;have BK102:=n0_;have HB:=n1_;clear n0_ n1_;(try clear hb);have hcz26_0:w25.cell? ⟨gb102,0,none⟩=some (.string a0_0):=zq1 BK102.out 0;have hcz26_1:w25.cell? ⟨gb102,1,none⟩=some (.string a0_1):=zq1 BK102.out 1;have hcz26_2:w25.cell? ⟨gb102,2,none⟩=some (.slice A0_2 l0_2.length c0_2):=zq1 BK102.out 2;have hcz26_3:w25.cell? ⟨gb102,3,none⟩=some (.slice A0_3 l0_3.length c0_3):=zq1 BK102.out 3;have hfz26_0:=zq7 BK102.out 0;have hfz26_1:=zq7 BK102.out 1;have hfz26_2:=zq7 BK102.out 2;have hfz26_3:=zq7 BK102.out 3)|(go_at_call 92;(with_reducible refine (spec_l1In.calls (l0_2.length:Int) 1 4 true _ A21.out).mono ?_);rintro e w' ⟨rfl,⟨nd,rfl⟩⟩;(try first|exact ⟨rfl,_,World.drewN_drewN _ _ _⟩|exact ⟨rfl,_,Eq.trans (World.drewN_drewN _ _ _) (congrArg (World.drewN _) (Nat.add_assoc _ _ _))⟩))|(go_at_call 93;(with_reducible refine (spec_l2BodyOk.calls k1 _ _ l0_3 t109 _ ?side1 ?side2 A23.out).mono ?_);(case side1=>repeat (first|exact (Kd.z1 HR0_3.out (by repeat (first|(with_reducible first|exact HB.out|apply zq4|apply zq0|apply zq3|refine zq2 ?_ GE102.out)|exact HB.out)))|(with_reducible refine Kd.z0 ?_ _)|(with_reducible refine Kd.z3 ?_ _)|(with_reducible refine Kd.z2 ?_)));(case side2=>exact HC0_3.out);rintro e w' ⟨rfl,⟨nd,rfl⟩⟩;(try first|exact ⟨rfl,_,World.drewN_drewN _ _ _⟩|exact ⟨rfl,_,Eq.trans (World.drewN_drewN _ _ _) (congrArg (World.drewN _) (Nat.add_assoc _ _ _))⟩)));try go_wp2_with (first|(go_at_call 66;(with_reducible refine (spec_l1AddrOk.calls k1 a0_0 a0_1 true _ A19.out).mono ?_);rintro e w25 ⟨rfl,hb⟩;have n0_:=zA (zq13 (by (with_reducible repeat (first|refine zq6 ?_ _|refine zq8 ?_|refine zq5 ?_ _));exact BK102.out) hb);have n1_:=zA (zq11 (by repeat (first|(with_reducible first|exact HB.out|apply zq4|apply zq0|apply zq3|refine zq2 ?_ GE102.out)|exact HB.out)) hb);clear BK102;clear HB;have BK102:=n0_;have HB:=n1_;clear n0_ n1_;(try clear hb);have hcz26_0:w25.cell? ⟨gb102,0,none⟩=some (.string a0_0):=zq1 BK102.out 0;have hcz26_1:w25.cell? ⟨gb102,1,none⟩=some (.string a0_1):=zq1 BK102.out 1;have hcz26_2:w25.cell? ⟨gb102,2,none⟩=some (.slice A0_2 l0_2.length c0_2):=zq1 BK102.out 2;have hcz26_3:w25.cell? ⟨gb102,3,none⟩=some (.slice A0_3 l0_3.length c0_3):=zq1 BK102.out 3;have hfz26_0:=zq7 BK102.out 0;have hfz26_1:=zq7 BK102.out 1;have hfz26_2:=zq7 BK102.out 2;have hfz26_3:=zq7 BK102.out 3)|(go_at_call 92;(with_reducible refine (spec_l1In.calls (l0_2.length:Int) 1 4 true _ A21.out).mono ?_);rintro e w' ⟨rfl,⟨nd,rfl⟩⟩;(try first|exact ⟨rfl,_,World.drewN_drewN _ _ _⟩|exact ⟨rfl,_,Eq.trans (World.drewN_drewN _ _ _) (congrArg (World.drewN _) (Nat.add_assoc _ _ _))⟩))|(go_at_call 93;(with_reducible refine (spec_l2BodyOk.calls k1 _ _ l0_3 t109 _ ?side1 ?side2 A23.out).mono ?_);(case side1=>repeat (first|exact (Kd.z1 HR0_3.out (by repeat (first|(with_reducible first|exact HB.out|apply zq4|apply zq0|apply zq3|refine zq2 ?_ GE102.out)|exact HB.out)))|(with_reducible refine Kd.z0 ?_ _)|(with_reducible refine Kd.z3 ?_ _)|(with_reducible refine Kd.z2 ?_)));(case side2=>exact HC0_3.out);rintro e w' ⟨rfl,⟨nd,rfl⟩⟩;(try first|exact ⟨rfl,_,World.drewN_drewN _ _ _⟩|exact ⟨rfl,_,Eq.trans (World.drewN_drewN _ _ _) (congrArg (World.drewN _) (Nat.add_assoc _ _ _))⟩))))
      go_ret
      exact ⟨by first|rfl|(simp [zq16,zq17]<;>rfl)|(simp [*,zq16,zq17]<;>rfl),by repeat (first|(with_reducible first|exact HB.out|apply zq4|apply zq0|apply zq3|refine zq2 ?_ GE102.out)|exact HB.out)⟩
     ·replace c22:=Bool.eq_false_iff.mpr c22
      subst c22
      have H1:(some false)=some r:=by rw [if_neg (show ¬ (false=true) by decide)] at H;exact H
      clear H
      have H:=H1
      clear H1
      obtain rfl:=Option.some.inj H
      have hcz27_0:wr.cell? ⟨gb102,0,none⟩=some (.string a0_0):=zq1 BK102.out 0
      have hcz27_1:wr.cell? ⟨gb102,1,none⟩=some (.string a0_1):=zq1 BK102.out 1
      have hcz27_2:wr.cell? ⟨gb102,2,none⟩=some (.slice A0_2 l0_2.length c0_2):=zq1 BK102.out 2
      have hcz27_3:wr.cell? ⟨gb102,3,none⟩=some (.slice A0_3 l0_3.length c0_3):=zq1 BK102.out 3
      have hfz27_0:=zq7 BK102.out 0
      have hfz27_1:=zq7 BK102.out 1
      have hfz27_2:=zq7 BK102.out 2
      have hfz27_3:=zq7 BK102.out 3
      go_wp2_with (first|(go_at_call 66;(with_reducible refine (spec_l1AddrOk.calls k1 a0_0 a0_1 true _ A19.out).mono ?_);rintro e w28 ⟨rfl,hb⟩;have n0_:=zA (zq13 (by (with_reducible repeat (first|refine zq6 ?_ _|refine zq8 ?_|refine zq5 ?_ _));exact BK102.out) hb);have n1_:=zA (zq11 (by repeat (first|(with_reducible first|exact HB.out|apply zq4|apply zq0|apply zq3|refine zq2 ?_ GE102.out)|exact HB.out)) hb);clear BK102;clear HB;have BK102:=n0_;have HB:=n1_;clear n0_ n1_;(try clear hb);have hcz29_0:w28.cell? ⟨gb102,0,none⟩=some (.string a0_0):=zq1 BK102.out 0;have hcz29_1:w28.cell? ⟨gb102,1,none⟩=some (.string a0_1):=zq1 BK102.out 1;have hcz29_2:w28.cell? ⟨gb102,2,none⟩=some (.slice A0_2 l0_2.length c0_2):=zq1 BK102.out 2;have hcz29_3:w28.cell? ⟨gb102,3,none⟩=some (.slice A0_3 l0_3.length c0_3):=zq1 BK102.out 3;have hfz29_0:=zq7 BK102.out 0;have hfz29_1:=zq7 BK102.out 1;have hfz29_2:=zq7 BK102.out 2;have hfz29_3:=zq7 BK102.out 3)|(go_at_call 92;(with_reducible refine (spec_l1In.calls (l0_2.length:Int) 1 4 false _ A21.out).mono ?_);rintro e w' ⟨rfl,⟨nd,rfl⟩⟩;(try first|exact ⟨rfl,_,World.drewN_drewN _ _ _⟩|exact ⟨rfl,_,Eq.trans (World.drewN_drewN _ _ _) (congrArg (World.drewN _) (Nat.add_assoc _ _ _))⟩)))
      repeat (go_quiet (first|(go_at_call 66;(with_reducible refine (spec_l1AddrOk.calls k1 a0_0 a0_1 true _ A19.out).mono ?_);rintro e w28 ⟨rfl,hb⟩;have n0_:=zA (zq13 (by (with_reducible repeat (first|refine zq6 ?_ _|refine zq8 ?_|refine zq5 ?_ _));exact BK102.out) hb);have n1_:=zA (zq11 (by repeat (first|(with_reducible first|exact HB.out|apply zq4|apply zq0|apply zq3|refine zq2 ?_ GE102.out)|exact HB.out)) hb);clear BK102;clear HB;have BK102:=n0_;have HB:=n1_;clear n0_ n1_;(try clear hb);have hcz29_0:w28.cell? ⟨gb102,0,none⟩=some (.string a0_0):=zq1 BK102.out 0;have hcz29_1:w28.cell? ⟨gb102,1,none⟩=some (.string a0_1):=zq1 BK102.out 1;have hcz29_2:w28.cell? ⟨gb102,2,none⟩=some (.slice A0_2 l0_2.length c0_2):=zq1 BK102.out 2;have hcz29_3:w28.cell? ⟨gb102,3,none⟩=some (.slice A0_3 l0_3.length c0_3):=zq1 BK102.out 3;have hfz29_0:=zq7 BK102.out 0;have hfz29_1:=zq7 BK102.out 1;have hfz29_2:=zq7 BK102.out 2;have hfz29_3:=zq7 BK102.out 3)|(go_at_call 92;(with_reducible refine (spec_l1In.calls (l0_2.length:Int) 1 4 false _ A21.out).mono ?_);rintro e w' ⟨rfl,⟨nd,rfl⟩⟩;(try first|exact ⟨rfl,_,World.drewN_drewN _ _ _⟩|exact ⟨rfl,_,Eq.trans (World.drewN_drewN _ _ _) (congrArg (World.drewN _) (Nat.add_assoc _ _ _))⟩)));try go_wp2_with (first|(go_at_call 66;(with_reducible refine (spec_l1AddrOk.calls k1 a0_0 a0_1 true _ A19.out).mono ?_);rintro e w28 ⟨rfl,hb⟩;have n0_:=zA (zq13 (by (with_reducible repeat (first|refine zq6 ?_ _|refine zq8 ?_|refine zq5 ?_ _));exact BK102.out) hb);have n1_:=zA (zq11 (by repeat (first|(with_reducible first|exact HB.out|apply zq4|apply zq0|apply zq3|refine zq2 ?_ GE102.out)|exact HB.out)) hb);clear BK102;clear HB;have BK102:=n0_;have HB:=n1_;clear n0_ n1_;(try clear hb);have hcz29_0:w28.cell? ⟨gb102,0,none⟩=some (.string a0_0):=zq1 BK102.out 0;have hcz29_1:w28.cell? ⟨gb102,1,none⟩=some (.string a0_1):=zq1 BK102.out 1;have hcz29_2:w28.cell? ⟨gb102,2,none⟩=some (.slice A0_2 l0_2.length c0_2):=zq1 BK102.out 2;have hcz29_3:w28.cell? ⟨gb102,3,none⟩=some (.slice A0_3 l0_3.length c0_3):=zq1 BK102.out 3;have hfz29_0:=zq7 BK102.out 0;have hfz29_1:=zq7 BK102.out 1;have hfz29_2:=zq7 BK102.out 2;have hfz29_3:=zq7 BK102.out 3)|(go_at_call 92;(with_reducible refine (spec_l1In.calls (l0_2.length:Int) 1 4 false _ A21.out).mono ?_);rintro e w' ⟨rfl,⟨nd,rfl⟩⟩;(try first|exact ⟨rfl,_,World.drewN_drewN _ _ _⟩|exact ⟨rfl,_,Eq.trans (World.drewN_drewN _ _ _) (congrArg (World.drewN _) (Nat.add_assoc _ _ _))⟩))))
      go_ret
      exact ⟨by first|rfl|(simp [zq16,zq17]<;>rfl)|(simp [*,zq16,zq17]<;>rfl),by repeat (first|(with_reducible first|exact HB.out|apply zq4|apply zq0|apply zq3|refine zq2 ?_ GE102.out)|exact HB.out)⟩
    ·replace c20:=Bool.eq_false_iff.mpr c20
     subst c20
     have H1:((spec_l1Null.f a0_0 a0_1).bind fun t110=>(if t110=true then ((spec_l1In.f (l0_2.length:Int) 1 4).bind fun t111=>(if t111=true then ((spec_l2BodyOk.f k1 l0_3).bind fun t112=>(some t112)) else (some false))) else (some false)))=some r:=by rw [if_neg (show ¬ (false=true) by decide)] at H;exact H
     clear H
     have H:=H1
     clear H1
     replace H:=Option.bind_eq_some_iff.mp H
     obtain ⟨t110,A300,H⟩:=H
     replace H:(if t110=true then ((spec_l1In.f (l0_2.length:Int) 1 4).bind fun t111=>(if t111=true then ((spec_l2BodyOk.f k1 l0_3).bind fun t112=>(some t112)) else (some false))) else (some false))=some r:=H
     have A30:=zA A300
     clear A300
     by_cases c31:t110=true
     ·subst c31
      have H1:((spec_l1In.f (l0_2.length:Int) 1 4).bind fun t111=>(if t111=true then ((spec_l2BodyOk.f k1 l0_3).bind fun t112=>(some t112)) else (some false)))=some r:=by rw [if_pos rfl] at H;exact H
      clear H
      have H:=H1
      clear H1
      replace H:=Option.bind_eq_some_iff.mp H
      obtain ⟨t111,A320,H⟩:=H
      replace H:(if t111=true then ((spec_l2BodyOk.f k1 l0_3).bind fun t112=>(some t112)) else (some false))=some r:=H
      have A32:=zA A320
      clear A320
      by_cases c33:t111=true
      ·subst c33
       have H1:((spec_l2BodyOk.f k1 l0_3).bind fun t112=>(some t112))=some r:=by rw [if_pos rfl] at H;exact H
       clear H
       have H:=H1
       clear H1
       replace H:=Option.bind_eq_some_iff.mp H
       obtain ⟨t112,A340,H⟩:=H
       replace H:(some t112)=some r:=H
       have A34:=zA A340
       clear A340
       obtain rfl:=Option.some.inj H
       have hcz35_0:wr.cell? ⟨gb102,0,none⟩=some (.string a0_0):=zq1 BK102.out 0
       have hcz35_1:wr.cell? ⟨gb102,1,none⟩=some (.string a0_1):=zq1 BK102.out 1
       have hcz35_2:wr.cell? ⟨gb102,2,none⟩=some (.slice A0_2 l0_2.length c0_2):=zq1 BK102.out 2
       have hcz35_3:wr.cell? ⟨gb102,3,none⟩=some (.slice A0_3 l0_3.length c0_3):=zq1 BK102.out 3
       have hfz35_0:=zq7 BK102.out 0
       have hfz35_1:=zq7 BK102.out 1
       have hfz35_2:=zq7 BK102.out 2
       have hfz35_3:=zq7 BK102.out 3
       go_wp2_with (first|(go_at_call 66;(with_reducible refine (spec_l1AddrOk.calls k1 a0_0 a0_1 false _ A19.out).mono ?_);rintro e w36 ⟨rfl,hb⟩;have n0_:=zA (zq13 (by (with_reducible repeat (first|refine zq6 ?_ _|refine zq8 ?_|refine zq5 ?_ _));exact BK102.out) hb);have n1_:=zA (zq11 (by repeat (first|(with_reducible first|exact HB.out|apply zq4|apply zq0|apply zq3|refine zq2 ?_ GE102.out)|exact HB.out)) hb);clear BK102;clear HB;have BK102:=n0_;have HB:=n1_;clear n0_ n1_;(try clear hb);have hcz37_0:w36.cell? ⟨gb102,0,none⟩=some (.string a0_0):=zq1 BK102.out 0;have hcz37_1:w36.cell? ⟨gb102,1,none⟩=some (.string a0_1):=zq1 BK102.out 1;have hcz37_2:w36.cell? ⟨gb102,2,none⟩=some (.slice A0_2 l0_2.length c0_2):=zq1 BK102.out 2;have hcz37_3:w36.cell? ⟨gb102,3,none⟩=some (.slice A0_3 l0_3.length c0_3):=zq1 BK102.out 3;have hfz37_0:=zq7 BK102.out 0;have hfz37_1:=zq7 BK102.out 1;have hfz37_2:=zq7 BK102.out 2;have hfz37_3:=zq7 BK102.out 3)|(go_at_call 91;(with_reducible refine (spec_l1Null.calls a0_0 a0_1 true _ A30.out).mono ?_);rintro e w38 ⟨rfl,hb⟩;have n0_:=zA (zq13 (by (with_reducible repeat (first|refine zq6 ?_ _|refine zq8 ?_|refine zq5 ?_ _));exact BK102.out) hb);have n1_:=zA (zq11 (by repeat (first|(with_reducible first|exact HB.out|apply zq4|apply zq0|apply zq3|refine zq2 ?_ GE102.out)|exact HB.out)) hb);clear BK102;clear HB;have BK102:=n0_;have HB:=n1_;clear n0_ n1_;(try clear hb);have hcz39_0:w38.cell? ⟨gb102,0,none⟩=some (.string a0_0):=zq1 BK102.out 0;have hcz39_1:w38.cell? ⟨gb102,1,none⟩=some (.string a0_1):=zq1 BK102.out 1;have hcz39_2:w38.cell? ⟨gb102,2,none⟩=some (.slice A0_2 l0_2.length c0_2):=zq1 BK102.out 2;have hcz39_3:w38.cell? ⟨gb102,3,none⟩=some (.slice A0_3 l0_3.length c0_3):=zq1 BK102.out 3;have hfz39_0:=zq7 BK102.out 0;have hfz39_1:=zq7 BK102.out 1;have hfz39_2:=zq7 BK102.out 2;have hfz39_3:=zq7 BK102.out 3)|(go_at_call 92;(with_reducible refine (spec_l1In.calls (l0_2.length:Int) 1 4 true _ A32.out).mono ?_);rintro e w' ⟨rfl,⟨nd,rfl⟩⟩;(try first|exact ⟨rfl,_,World.drewN_drewN _ _ _⟩|exact ⟨rfl,_,Eq.trans (World.drewN_drewN _ _ _) (congrArg (World.drewN _) (Nat.add_assoc _ _ _))⟩))|(go_at_call 93;(with_reducible refine (spec_l2BodyOk.calls k1 _ _ l0_3 t112 _ ?side1 ?side2 A34.out).mono ?_);(case side1=>repeat (first|exact (Kd.z1 HR0_3.out (by repeat (first|(with_reducible first|exact HB.out|apply zq4|apply zq0|apply zq3|refine zq2 ?_ GE102.out)|exact HB.out)))|(with_reducible refine Kd.z0 ?_ _)|(with_reducible refine Kd.z3 ?_ _)|(with_reducible refine Kd.z2 ?_)));(case side2=>exact HC0_3.out);rintro e w' ⟨rfl,⟨nd,rfl⟩⟩;(try first|exact ⟨rfl,_,World.drewN_drewN _ _ _⟩|exact ⟨rfl,_,Eq.trans (World.drewN_drewN _ _ _) (congrArg (World.drewN _) (Nat.add_assoc _ _ _))⟩)))
       repeat (go_quiet (first|(go_at_call 66;(with_reducible refine (spec_l1AddrOk.calls k1 a0_0 a0_1 false _ A19.out).mono ?_);rintro e w36 ⟨rfl,hb⟩;have n0_:=zA (zq13 (by (with_reducible repeat (first|refine zq6 ?_ _|refine zq8 ?_|refine zq5 ?_ _));exact BK102.out) hb);have n1_:=zA (zq11 (by repeat (first|(with_reducible first|exact HB.out|apply zq4|apply zq0|apply zq3|refine zq2 ?_ GE102.out)|exact HB.out)) hb);clear BK102;clear HB;have BK102:=n0_;have HB:=n1_;clear n0_ n1_;(try clear hb);have hcz37_0:w36.cell? ⟨gb102,0,none⟩=some (.string a0_0):=zq1 BK102.out 0;have hcz37_1:w36.cell? ⟨gb102,1,none⟩=some (.string a0_1):=zq1 BK102.out 1;have hcz37_2:w36.cell? ⟨gb102,2,none⟩=some (.slice A0_2 l0_2.length c0_2):=zq1 BK102.out 2;have hcz37_3:w36.cell? ⟨gb102,3,none⟩=some (.slice A0_3 l0_3.length c0_3):=zq1 BK102.out 3;have hfz37_0:=zq7 BK102.out 0;have hfz37_1:=zq7 BK102.out 1;have hfz37_2:=zq7 BK102.out 2;have hfz37_3:=zq7 BK102.out 3)|(go_at_call 91;(with_reducible refine (spec_l1Null.calls a0_0 a0_1 true _ A30.out).mono ?_);rintro e w38 ⟨rfl,hb⟩;have n0_:=zA (zq13 (by (with_reducible repeat (first|refine zq6 ?_ _|refine zq8 ?_|refine zq5 ?_ _));exact BK102.out) hb);have n1_:=zA (zq11 (by repeat (first|(with_reducible first|exact HB.out|apply zq4|apply zq0|apply zq3|refine zq2 ?_ GE102.out)|exact HB.out)) hb);clear BK102;clear HB;have BK102:=n0_;have HB:=n1_;clear n0_ n1_;(try clear hb);have hcz39_0:w38.cell? ⟨gb102,0,none⟩=some (.string a0_0):=zq1 BK102.out 0;have hcz39_1:w38.cell? ⟨gb102,1,none⟩=some (.string a0_1):=zq1 BK102.out 1;have hcz39_2:w38.cell? ⟨gb102,2,none⟩=some (.slice A0_2 l0_2.length c0_2):=zq1 BK102.out 2;have hcz39_3:w38.cell? ⟨gb102,3,none⟩=some (.slice A0_3 l0_3.length c0_3):=zq1 BK102.out 3;have hfz39_0:=zq7 BK102.out 0;have hfz39_1:=zq7 BK102.out 1;have hfz39_2:=zq7 BK102.out 2;have hfz39_3:=zq7 BK102.out 3)|(go_at_call 92;(with_reducible refine (spec_l1In.calls (l0_2.length:Int) 1 4 true _ A32.out).mono ?_);rintro e w' ⟨rfl,⟨nd,rfl⟩⟩;(try first|exact ⟨rfl,_,World.drewN_drewN _ _ _⟩|exact ⟨rfl,_,Eq.trans (World.drewN_drewN _ _ _) (congrArg (World.drewN _) (Nat.add_assoc _ _ _))⟩))|(go_at_call 93;(with_reducible refine (spec_l2BodyOk.calls k1 _ _ l0_3 t112 _ ?side1 ?side2 A34.out).mono ?_);(case side1=>repeat (first|exact (Kd.z1 HR0_3.out (by repeat (first|(with_reducible first|exact HB.out|apply zq4|apply zq0|apply zq3|refine zq2 ?_ GE102.out)|exact HB.out)))|(with_reducible refine Kd.z0 ?_ _)|(with_reducible refine Kd.z3 ?_ _)|(with_reducible refine Kd.z2 ?_)));(case side2=>exact HC0_3.out);rintro e w' ⟨rfl,⟨nd,rfl⟩⟩;(try first|exact ⟨rfl,_,World.drewN_drewN _ _ _⟩|exact ⟨rfl,_,Eq.trans (World.drewN_drewN _ _ _) (congrArg (World.drewN _) (Nat.add_assoc _ _ _))⟩)));try go_wp2_with (first|(go_at_call 66;(with_reducible refine (spec_l1AddrOk.calls k1 a0_0 a0_1 false _ A19.out).mono ?_);rintro e w36 ⟨rfl,hb⟩;have n0_:=zA (zq13 (by (with_reducible repeat (first|refine zq6 ?_ _|refine zq8 ?_|refine zq5 ?_ _));exact BK102.out) hb);have n1_:=zA (zq11 (by repeat (first|(with_reducible first|exact HB.out|apply zq4|apply zq0|apply zq3|refine zq2 ?_ GE102.out)|exact HB.out)) hb);clear BK102;clear HB;have BK102:=n0_;have HB:=n1_;clear n0_ n1_;(try clear hb);have hcz37_0:w36.cell? ⟨gb102,0,none⟩=some (.string a0_0):=zq1 BK102.out 0;have hcz37_1:w36.cell? ⟨gb102,1,none⟩=some (.string a0_1):=zq1 BK102.out 1;have hcz37_2:w36.cell? ⟨gb102,2,none⟩=some (.slice A0_2 l0_2.length c0_2):=zq1 BK102.out 2;have hcz37_3:w36.cell? ⟨gb102,3,none⟩=some (.slice A0_3 l0_3.length c0_3):=zq1 BK102.out 3;have hfz37_0:=zq7 BK102.out 0;have hfz37_1:=zq7 BK102.out 1;have hfz37_2:=zq7 BK102.out 2;have hfz37_3:=zq7 BK102.out 3)|(go_at_call 91;(with_reducible refine (spec_l1Null.calls a0_0 a0_1 true _ A30.out).mono ?_);rintro e w38 ⟨rfl,hb⟩;have n0_:=zA (zq13 (by (with_reducible repeat (first|refine zq6 ?_ _|refine zq8 ?_|refine zq5 ?_ _));exact BK102.out) hb);have n1_:=zA (zq11 (by repeat (first|(with_reducible first|exact HB.out|apply zq4|apply zq0|apply zq3|refine zq2 ?_ GE102.out)|exact HB.out)) hb);clear BK102;clear HB;have BK102:=n0_;have HB:=n1_;clear n0_ n1_;(try clear hb);have hcz39_0:w38.cell? ⟨gb102,0,none⟩=some (.string a0_0):=zq1 BK102.out 0;have hcz39_1:w38.cell? ⟨gb102,1,none⟩=some (.string a0_1):=zq1 BK102.out 1;have hcz39_2:w38.cell? ⟨gb102,2,none⟩=some (.slice A0_2 l0_2.length c0_2):=zq1 BK102.out 2;have hcz39_3:w38.cell? ⟨gb102,3,none⟩=some (.slice A0_3 l0_3.length c0_3):=zq1 BK102.out 3;have hfz39_0:=zq7 BK102.out 0;have hfz39_1:=zq7 BK102.out 1;have hfz39_2:=zq7 BK102.out 2;have hfz39_3:=zq7 BK102.out 3)|(go_at_call 92;(with_reducible refine (spec_l1In.calls (l0_2.length:Int) 1 4 true _ A32.out).mono ?_);rintro e w' ⟨rfl,⟨nd,rfl⟩⟩;(try first|exact ⟨rfl,_,World.drewN_drewN _ _ _⟩|exact ⟨rfl,_,Eq.trans (World.drewN_drewN _ _ _) (congrArg (World.drewN _) (Nat.add_assoc _ _ _))⟩))|(go_at_call 93;(with_reducible refine (spec_l2BodyOk.calls k1 _ _ l0_3 t112 _ ?side1 ?side2 A34.out).mono ?_);(case side1=>repeat (first|exact (Kd.z1 HR0_3.out (by repeat (first|(with_reducible first|exact HB.out|apply zq4|apply zq0|apply zq3|refine zq2 ?_ GE102.out)|exact HB.out)))|(with_reducible refine Kd.z0 ?_ _)|(with_reducible refine Kd.z3 ?_ _)|(with_reducible refine Kd.z2 ?_)));(case side2=>exact HC0_3.out);rintro e w' ⟨rfl,⟨nd,rfl⟩⟩;(try first|exact ⟨rfl,_,World.drewN_drewN _ _ _⟩|exact ⟨rfl,_,Eq.trans (World.drewN_drewN _ _ _) (congrArg (World.drewN _) (Nat.add_assoc _ _ _))⟩))))
       go_ret
       exact ⟨by first|rfl|(simp [zq16,zq17]<;>rfl)|(simp [*,zq16,zq17]<;>rfl),by repeat (first|(with_reducible first|exact HB.out|apply zq4|apply zq0|apply zq3|refine zq2 ?_ GE102.out)|exact HB.out)⟩
      ·replace c33:=Bool.eq_false_iff.mpr c33
       subst c33
       have H1:(some false)=some r:=by rw [if_neg (show ¬ (false=true) by decide)] at H;exact H
       clear H
       have H:=H1
       clear H1
       obtain rfl:=Option.some.inj H
       have hcz40_0:wr.cell? ⟨gb102,0,none⟩=some (.string a0_0):=zq1 BK102.out 0
       have hcz40_1:wr.cell? ⟨gb102,1,none⟩=some (.string a0_1):=zq1 BK102.out 1
       have hcz40_2:wr.cell? ⟨gb102,2,none⟩=some (.slice A0_2 l0_2.length c0_2):=zq1 BK102.out 2
       have hcz40_3:wr.cell? ⟨gb102,3,none⟩=some (.slice A0_3 l0_3.length c0_3):=zq1 BK102.out 3
       have hfz40_0:=zq7 BK102.out 0
       have hfz40_1:=zq7 BK102.out 1
       have hfz40_2:=zq7 BK102.out 2
       have hfz40_3:=zq7 BK102.out 3
       go_wp2_with (first|(go_at_call 66;(with_reducible refine (spec_l1AddrOk.calls k1 a0_0 a0_1 false _ A19.out).mono ?_);rintro e w41 ⟨rfl,hb⟩;have n0_:=zA (zq13 (by (with_reducible repeat (first|refine zq6 ?_ _|refine zq8 ?_|refine zq5 ?_ _));exact BK102.out) hb);have n1_:=zA (zq11 (by repeat (first|(with_reducible first|exact HB.out|apply zq4|apply zq0|apply zq3|refine zq2 ?_ GE102.out)|exact HB.out)) hb);clear BK102;clear HB;have BK102:=n0_;have HB:=n1_;clear n0_ n1_;(try clear hb);have hcz42_0:w41.cell? ⟨gb102,0,none⟩=some (.string a0_0):=zq1 BK102.out 0;have hcz42_1:w41.cell? ⟨gb102,1,none⟩=some (.string a0_1):=zq1 BK102.out 1;have hcz42_2:w41.cell? ⟨gb102,2,none⟩=some (.slice A0_2 l0_2.length c0_2):=zq1 BK102.out 2;have hcz42_3:w41.cell? ⟨gb102,3,none⟩=some (.slice A0_3 l0_3.length c0_3):=zq1 BK102.out 3;have hfz42_0:=zq7 BK102.out 0;have hfz42_1:=zq7 BK102.out 1;have hfz42_2:=zq7 BK102.out 2;have hfz42_3:=zq7 BK102.out 3)|(go_at_call 91;(with_reducible refine (spec_l1Null.calls a0_0 a0_1 true _ A30.out).mono ?_);rintro e w43 ⟨rfl,hb⟩;have n0_:=zA (zq13 (by (with_reducible repeat (first|refine zq6 ?_ _|refine zq8 ?_|refine zq5 ?_ _));exact BK102.out) hb);have n1_:=zA (zq11 (by repeat (first|(with_reducible first|exact HB.out|apply zq4|apply zq0|apply zq3|refine zq2 ?_ GE102.out)|exact HB.out)) hb);clear BK102;clear HB;have BK102:=n0_;have HB:=n1_;clear n0_ n1_;(try clear hb);have hcz44_0:w43.cell? ⟨gb102,0,none⟩=some (.string a0_0):=zq1 BK102.out 0;have hcz44_1:w43.cell? ⟨gb102,1,none⟩=some (.string a0_1):=zq1 BK102.out 1;have hcz44_2:w43.cell? ⟨gb102,2,none⟩=some (.slice A0_2 l0_2.length c0_2):=zq1 BK102.out 2;have hcz44_3:w43.cell? ⟨gb102,3,none⟩=some (.slice A0_3 l0_3.length c0_3):=zq1 BK102.out 3;have hfz44_0:=zq7 BK102.out 0;have hfz44_1:=zq7 BK102.out 1;have hfz44_2:=zq7 BK102.out 2;have hfz44_3:=zq7 BK102.out 3)|(go_at_call 92;(with_reducible refine (spec_l1In.calls (l0_2.length:Int) 1 4 false _ A32.out).mono ?_);rintro e w' ⟨rfl,⟨nd,rfl⟩⟩;(try first|exact ⟨rfl,_,World.drewN_drewN _ _ _⟩|exact ⟨rfl,_,Eq.trans (World.drewN_drewN _ _ _) (congrArg (World.drewN _) (Nat.add_assoc _ _ _))⟩)))
       repeat (go_quiet (first|(go_at_call 66;(with_reducible refine (spec_l1AddrOk.calls k1 a0_0 a0_1 false _ A19.out).mono ?_);rintro e w41 ⟨rfl,hb⟩;have n0_:=zA (zq13 (by (with_reducible repeat (first|refine zq6 ?_ _|refine zq8 ?_|refine zq5 ?_ _));exact BK102.out) hb);have n1_:=zA (zq11 (by repeat (first|(with_reducible first|exact HB.out|apply zq4|apply zq0|apply zq3|refine zq2 ?_ GE102.out)|exact HB.out)) hb);clear BK102;clear HB;have BK102:=n0_;have HB:=n1_;clear n0_ n1_;(try clear hb);have hcz42_0:w41.cell? ⟨gb102,0,none⟩=some (.string a0_0):=zq1 BK102.out 0;have hcz42_1:w41.cell? ⟨gb102,1,none⟩=some (.string a0_1):=zq1 BK102.out 1;have hcz42_2:w41.cell? ⟨gb102,2,none⟩=some (.slice A0_2 l0_2.length c0_2):=zq1 BK102.out 2;have hcz42_3:w41.cell? ⟨gb102,3,none⟩=some (.slice A0_3 l0_3.length c0_3):=zq1 BK102.out 3;have hfz42_0:=zq7 BK102.out 0;have hfz42_1:=zq7 BK102.out 1;have hfz42_2:=zq7 BK102.out 2;have hfz42_3:=zq7 BK102.out 3)|(go_at_call 91;(with_reducible refine (spec_l1Null.calls a0_0 a0_1 true _ A30.out).mono ?_);rintro e w43 ⟨rfl,hb⟩;have n0_:=zA (zq13 (by (with_reducible repeat (first|refine zq6 ?_ _|refine zq8 ?_|refine zq5 ?_ _));exact BK102.out) hb);have n1_:=zA (zq11 (by repeat (first|(with_reducible first|exact HB.out|apply zq4|apply zq0|apply zq3|refine zq2 ?_ GE102.out)|exact HB.out)) hb);clear BK102;clear HB;have BK102:=n0_;have HB:=n1_;clear n0_ n1_;(try clear hb);have hcz44_0:w43.cell? ⟨gb102,0,none⟩=some (.string a0_0):=zq1 BK102.out 0;have hcz44_1:w43.cell? ⟨gb102,1,none⟩=some (.string a0_1):=zq1 BK102.out 1;have hcz44_2:w43.cell? ⟨gb102,2,none⟩=some (.slice A0_2 l0_2.length c0_2):=zq1 BK102.out 2;have hcz44_3:w43.cell? ⟨gb102,3,none⟩=some (.slice A0_3 l0_3.length c0_3):=zq1 BK102.out 3;have hfz44_0:=zq7 BK102.out 0;have hfz44_1:=zq7 BK102.out 1;have hfz44_2:=zq7 BK102.out 2;have hfz44_3:=zq7 BK102.out 3)|(go_at_call 92;(with_reducible refine (spec_l1In.calls (l0_2.length:Int) 1 4 false _ A32.out).mono ?_);rintro e w' ⟨rfl,⟨nd,rfl⟩⟩;(try first|exact ⟨rfl,_,World.drewN_drewN _ _ _⟩|exact ⟨rfl,_,Eq.trans (World.drewN_drewN _ _ _) (congrArg (World.drewN _) (Nat.add_assoc _ _ _))⟩)));try go_wp2_with (first|(go_at_call 66;(with_reducible refine (spec_l1AddrOk.calls k1 a0_0 a0_1 false _ A19.out).mono ?_);rintro e w41 ⟨rfl,hb⟩;have n0_:=zA (zq13 (by (with_reducible repeat (first|refine zq6 ?_ _|refine zq8 ?_|refine zq5 ?_ _));exact BK102.out) hb);have n1_:=zA (zq11 (by repeat (first|(with_reducible first|exact HB.out|apply zq4|apply zq0|apply zq3|refine zq2 ?_ GE102.out)|exact HB.out)) hb);clear BK102;clear HB;have BK102:=n0_;have HB:=n1_;clear n0_ n1_;(try clear hb);have hcz42_0:w41.cell? ⟨gb102,0,none⟩=some (.string a0_0):=zq1 BK102.out 0;have hcz42_1:w41.cell? ⟨gb102,1,none⟩=some (.string a0_1):=zq1 BK102.out 1;have hcz42_2:w41.cell? ⟨gb102,2,none⟩=some (.slice A0_2 l0_2.length c0_2):=zq1 BK102.out 2;have hcz42_3:w41.cell? ⟨gb102,3,none⟩=some (.slice A0_3 l0_3.length c0_3):=zq1 BK102.out 3;have hfz42_0:=zq7 BK102.out 0;have hfz42_1:=zq7 BK102.out 1;have hfz42_2:=zq7 BK102.out 2;have hfz42_3:=zq7 BK102.out 3)|(go_at_call 91;(with_reducible refine (spec_l1Null.calls a0_0 a0_1 true _ A30.out).mono ?_);rintro e w43 ⟨rfl,hb⟩;have n0_:=zA (zq13 (by (with_reducible repeat (first|refine zq6 ?_ _|refine zq8 ?_|refine zq5 ?_ _));exact BK102.out) hb);have n1_:=zA (zq11 (by repeat (first|(with_reducible first|exact HB.out|apply zq4|apply zq0|apply zq3|refine zq2 ?_ GE102.out)|exact HB.out)) hb);clear BK102;clear HB;have BK102:=n0_;have HB:=n1_;clear n0_ n1_;(try clear hb);have hcz44_0:w43.cell? ⟨gb102,0,none⟩=some (.string a0_0):=zq1 BK102.out 0;have hcz44_1:w43.cell? ⟨gb102,1,none⟩=some (.string a0_1):=zq1 BK102.out 1;have hcz44_2:w43.cell? ⟨gb102,2,none⟩=some (.slice A0_2 l0_2.length c0_2):=zq1 BK102.out 2;have hcz44_3:w43.cell? ⟨gb102,3,none⟩=some (.slice A0_3 l0_3.length c0_3):=zq1 BK102.out 3;have hfz44_0:=zq7 BK102.out 0;have hfz44_1:=zq7 BK102.out 1;have hfz44_2:=zq7 BK102.out 2;have hfz44_3:=zq7 BK102.out 3)|(go_at_call 92;(with_reducible refine (spec_l1In.calls (l0_2.length:Int) 1 4 false _ A32.out).mono ?_);rintro e w' ⟨rfl,⟨nd,rfl⟩⟩;(try first|exact ⟨rfl,_,World.drewN_drewN _ _ _⟩|exact ⟨rfl,_,Eq.trans (World.drewN_drewN _ _ _) (congrArg (World.drewN _) (Nat.add_assoc _ _ _))⟩))))
       go_ret
       exact ⟨by first|rfl|(simp [zq16,zq17]<;>rfl)|(simp [*,zq16,zq17]<;>rfl),by repeat (first|(with_reducible first|exact HB.out|apply zq4|apply zq0|apply zq3|refine zq2 ?_ GE102.out)|exact HB.out)⟩
     ·replace c31:=Bool.eq_false_iff.mpr c31
      subst c31
      have H1:(some false)=some r:=by rw [if_neg (show ¬ (false=true) by decide)] at H;exact H
      clear H
      have H:=H1
      clear H1
      obtain rfl:=Option.some.inj H
      have hcz45_0:wr.cell? ⟨gb102,0,none⟩=some (.string a0_0):=zq1 BK102.out 0
      have hcz45_1:wr.cell? ⟨gb102,1,none⟩=some (.string a0_1):=zq1 BK102.out 1
      have hcz45_2:wr.cell? ⟨gb102,2,none⟩=some (.slice A0_2 l0_2.length c0_2):=zq1 BK102.out 2
      have hcz45_3:wr.cell? ⟨gb102,3,none⟩=some (.slice A0_3 l0_3.length c0_3):=zq1 BK102.out 3
      have hfz45_0:=zq7 BK102.out 0
      have hfz45_1:=zq7 BK102.out 1
      have hfz45_2:=zq7 BK102.out 2
      have hfz45_3:=zq7 BK102.out 3
      go_wp2_with (first|(go_at_call 66;(with_reducible refine (spec_l1AddrOk.calls k1 a0_0 a0_1 false _ A19.out).mono ?_);rintro e w46 ⟨rfl,hb⟩;have n0_:=zA (zq13 (by (with_reducible repeat (first|refine zq6 ?_ _|refine zq8 ?_|refine zq5 ?_ _));exact BK102.out) hb);have n1_:=zA (zq11 (by repeat (first|(with_reducible first|exact HB.out|apply zq4|apply zq0|apply zq3|refine zq2 ?_ GE102.out)|exact HB.out)) hb);clear BK102;clear HB;have BK102:=n0_;have HB:=n1_;clear n0_ n1_;(try clear hb);have hcz47_0:w46.cell? ⟨gb102,0,none⟩=some (.string a0_0):=zq1 BK102.out 0;have hcz47_1:w46.cell? ⟨gb102,1,none⟩=some (.string a0_1):=zq1 BK102.out 1;have hcz47_2:w46.cell? ⟨gb102,2,none⟩=some (.slice A0_2 l0_2.length c0_2):=zq1 BK102.out 2;have hcz47_3:w46.cell? ⟨gb102,3,none⟩=some (.slice A0_3 l0_3.length c0_3):=zq1 BK102.out 3;have hfz47_0:=zq7 BK102.out 0;have hfz47_1:=zq7 BK102.out 1;have hfz47_2:=zq7 BK102.out 2;have hfz47_3:=zq7 BK102.out 3)|(go_at_call 91;(with_reducible refine (spec_l1Null.calls a0_0 a0_1 false _ A30.out).mono ?_);rintro e w48 ⟨rfl,hb⟩;have n0_:=zA (zq13 (by (with_reducible repeat (first|refine zq6 ?_ _|refine zq8 ?_|refine zq5 ?_ _));exact BK102.out) hb);have n1_:=zA (zq11 (by repeat (first|(with_reducible first|exact HB.out|apply zq4|apply zq0|apply zq3|refine zq2 ?_ GE102.out)|exact HB.out)) hb);clear BK102;clear HB;have BK102:=n0_;have HB:=n1_;clear n0_ n1_;(try clear hb)))
      repeat (go_quiet (first|(go_at_call 66;(with_reducible refine (spec_l1AddrOk.calls k1 a0_0 a0_1 false _ A19.out).mono ?_);rintro e w46 ⟨rfl,hb⟩;have n0_:=zA (zq13 (by (with_reducible repeat (first|refine zq6 ?_ _|refine zq8 ?_|refine zq5 ?_ _));exact BK102.out) hb);have n1_:=zA (zq11 (by repeat (first|(with_reducible first|exact HB.out|apply zq4|apply zq0|apply zq3|refine zq2 ?_ GE102.out)|exact HB.out)) hb);clear BK102;clear HB;have BK102:=n0_;have HB:=n1_;clear n0_ n1_;(try clear hb);have hcz47_0:w46.cell? ⟨gb102,0,none⟩=some (.string a0_0):=zq1 BK102.out 0;have hcz47_1:w46.cell? ⟨gb102,1,none⟩=some (.string a0_1):=zq1 BK102.out 1;have hcz47_2:w46.cell? ⟨gb102,2,none⟩=some (.slice A0_2 l0_2.length c0_2):=zq1 BK102.out 2;have hcz47_3:w46.cell? ⟨gb102,3,none⟩=some (.slice A0_3 l0_3.length c0_3):=zq1 BK102.out 3;have hfz47_0:=zq7 BK102.out 0;have hfz47_1:=zq7 BK102.out 1;have hfz47_2:=zq7 BK102.out 2;have hfz47_3:=zq7 BK102.out 3)|(go_at_call 91;(with_reducible refine (spec_l1Null.calls a0_0 a0_1 false _ A30.out).mono ?_);rintro e w48 ⟨rfl,hb⟩;have n0_:=zA (zq13 (by (with_reducible repeat (first|refine zq6 ?_ _|refine zq8 ?_|refine zq5 ?_ _));exact BK102.out) hb);have n1_:=zA (zq11 (by repeat (first|(with_reducible first|exact HB.out|apply zq4|apply zq0|apply zq3|refine zq2 ?_ GE102.out)|exact HB.out)) hb);clear BK102;clear HB;have BK102:=n0_;have HB:=n1_;clear n0_ n1_;(try clear hb)));try go_wp2_with (first|(go_at_call 66;(with_reducible refine (spec_l1AddrOk.calls k1 a0_0 a0_1 false _ A19.out).mono ?_);rintro e w46 ⟨rfl,hb⟩;have n0_:=zA (zq13 (by (with_reducible repeat (first|refine zq6 ?_ _|refine zq8 ?_|refine zq5 ?_ _));exact BK102.out) hb);have n1_:=zA (zq11 (by repeat (first|(with_reducible first|exact HB.out|apply zq4|apply zq0|apply zq3|refine zq2 ?_ GE102.out)|exact HB.out)) hb);clear BK102;clear HB;have BK102:=n0_;have HB:=n1_;clear n0_ n1_;(try clear hb);have hcz47_0:w46.cell? ⟨gb102,0,none⟩=some (.string a0_0):=zq1 BK102.out 0;have hcz47_1:w46.cell? ⟨gb102,1,none⟩=some (.string a0_1):=zq1 BK102.out 1;have hcz47_2:w46.cell? ⟨gb102,2,none⟩=some (.slice A0_2 l0_2.length c0_2):=zq1 BK102.out 2;have hcz47_3:w46.cell? ⟨gb102,3,none⟩=some (.slice A0_3 l0_3.length c0_3):=zq1 BK102.out 3;have hfz47_0:=zq7 BK102.out 0;have hfz47_1:=zq7 BK102.out 1;have hfz47_2:=zq7 BK102.out 2;have hfz47_3:=zq7 BK102.out 3)|(go_at_call 91;(with_reducible refine (spec_l1Null.calls a0_0 a0_1 false _ A30.out).mono ?_);rintro e w48 ⟨rfl,hb⟩;have n0_:=zA (zq13 (by (with_reducible repeat (first|refine zq6 ?_ _|refine zq8 ?_|refine zq5 ?_ _));exact BK102.out) hb);have n1_:=zA (zq11 (by repeat (first|(with_reducible first|exact HB.out|apply zq4|apply zq0|apply zq3|refine zq2 ?_ GE102.out)|exact HB.out)) hb);clear BK102;clear HB;have BK102:=n0_;have HB:=n1_;clear n0_ n1_;(try clear hb))))
      go_ret
      exact ⟨by first|rfl|(simp [zq16,zq17]<;>rfl)|(simp [*,zq16,zq17]<;>rfl),by repeat (first|(with_reducible first|exact HB.out|apply zq4|apply zq0|apply zq3|refine zq2 ?_ GE102.out)|exact HB.out)⟩
end Go.Proofs.YthkibaldmjfmmaaDoor.Q
