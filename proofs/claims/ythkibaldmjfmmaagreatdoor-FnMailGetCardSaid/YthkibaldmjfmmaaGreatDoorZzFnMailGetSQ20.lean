/- Of a text of ours what this claim needs. -/
import Derived.Test.YthkibaldmjfmmaaGreatDoorZzFnMailGetSQ0
import Derived.Test.YthkibaldmjfmmaaGreatDoorZzFnMailGetSQ10
import Derived.Test.YthkibaldmjfmmaaGreatDoorZzFnMailGetSQ11
namespace Go.Proofs.YthkibaldmjfmmaaGreatDoor.Q
open Go.RowKit Go.Proofs.YthkibaldmjfmmaaGreatDoorW.PrintWords Go.Proofs.YthkibaldmjfmmaaGreatDoorW.PrintLast Go.Proofs.YthkibaldmjfmmaaGreatDoorW.PrintMore
attribute [local go_sem] max2_int min2_int max_two min_two max_three min_three max_four min_four
set_option linter.unusedVariables false
set_option linter.unusedSimpArgs false
def spec_AddrGet.j0:Nat→ByteArray→Bool→Option (ByteArray × ByteArray × Bool)
 | 0,_,_=>none
 | k+1,x0,x24=>if x24=true then (some ((⟨#[]⟩:ByteArray),(⟨#[]⟩:ByteArray),false)) else (if 1≤(wrap64 ((x0.size:Int) - 1)) then (if (wrap64 ((x0.size:Int) - 1))≤(x0.size:Int) then ((spec_l1Cut.f k (x0.extract 1 ((wrap64 ((x0.size:Int) - 1)):Int).toNat) 64 2).bind fun t135=>(if (t135.length:Int)=2 then (if 0 < (t135.length:Int) then (if 1 < (t135.length:Int) then ((spec_l1AddrOk.f k (rdOf ByteArray.empty t135 0) (rdOf ByteArray.empty t135 1)).bind fun t141=>(if t141=true then (some (rdOf ByteArray.empty t135 0,rdOf ByteArray.empty t135 1,true)) else (some ((⟨#[]⟩:ByteArray),(⟨#[]⟩:ByteArray),false)))) else (none)) else (none)) else (some ((⟨#[]⟩:ByteArray),(⟨#[]⟩:ByteArray),false)))) else (none)) else (none))
def spec_AddrGet.f (k:Nat) (a0:ByteArray):Option (ByteArray × ByteArray × Bool):=if a0.toList=([60,62]:List UInt8) then (some ((⟨#[]⟩:ByteArray),(⟨#[]⟩:ByteArray),true)) else (if (a0.size:Int) < 2 then (spec_AddrGet.j0 k a0 true) else (if 0 < (a0.size:Int) then (if (bt a0 0)=60 then (if 0≤(wrap64 ((a0.size:Int) - 1)) then (if (wrap64 ((a0.size:Int) - 1)) < (a0.size:Int) then (spec_AddrGet.j0 k a0 ((bt a0 (wrap64 ((a0.size:Int) - 1))) != 62)) else (none)) else (none)) else (spec_AddrGet.j0 k a0 true)) else (none)))
def spec_AddrGet.T8:Bool × List (List Nat × List Nat):=(true,[([],[]),([0],[0]),([1],[1]),([],[]),([3],[3]),([4],[4]),([2,5],[2,5]),([],[]),([7,6,0,1,2,3,4,5,6,7],[6,7])])
def spec_AddrGet.B8:List Nat:=[0,1,3,0,8,24,63,0,255]
theorem spec_AddrGet.tab8:rtab .any (opsOf Tryz.f76 8)=spec_AddrGet.T8:=by kernel_rfl
theorem spec_AddrGet.bits8:waitsOk spec_AddrGet.T8.2 spec_AddrGet.B8=true:=by kernel_rfl
set_option maxHeartbeats 8000000 in
set_option maxRecDepth 100000 in
theorem spec_AddrGet.calls (k:Nat) (a0:ByteArray) (r1:ByteArray) (r2:ByteArray) (r3:Bool) (w:World) (h:spec_AddrGet.f k a0=some (r1,r2,r3)) :
 Calls Tryz.prog 76 #[.string a0] w fun e w'=>e=.returned (.tuple #[.agg #[.string r1,.string r2],.bool r3])∧Below w.heap.size w w':=by
 have hu24:=Tryz.underlying24
 have HB:=Aside0.mk (Below.refl w.heap.size w)
 have H:(if a0.toList=([60,62]:List UInt8) then (some (bz0,bz0,true)) else (if (a0.size:Int) < 2 then (spec_AddrGet.j0 k a0 true) else (if 0 < (a0.size:Int) then (if (bt a0 0)=60 then (if 0≤(wrap64 ((a0.size:Int) - 1)) then (if (wrap64 ((a0.size:Int) - 1)) < (a0.size:Int) then (spec_AddrGet.j0 k a0 ((bt a0 (wrap64 ((a0.size:Int) - 1))) != 62)) else (none)) else (none)) else (spec_AddrGet.j0 k a0 true)) else (none))))=some (r1,r2,r3):=h
 clear h
 by_cases c2:a0.toList=([60,62]:List UInt8)
 ·rw [if_pos c2] at H
  have c2b0:(a0.toList==([60,62]:List UInt8))=true:=beq_iff_eq.mpr c2
  have c2b1:(a0.toList != ([60,62]:List UInt8))=false:=bne_eq_false_iff_eq.mpr c2
  clear c2
  simp only [Option.some.injEq,Prod.mk.injEq] at H
  obtain ⟨rfl,rfl,rfl⟩:=H
  go_enter Tryz.func76,Tryz.ntmps76
  go_wp2_with (first|((with_reducible refine zq21 (N:=2) rfl ?_);(try (refine gate_guard (by rfl) ?_;dsimp only));refine zq22 ?hg (N:=2) ?hd (cs:=#[.string bz0,.string bz0]) (t:=24) ?hr ?_;(case hd=>rfl);(case hg=>rfl);(case hr=>first|(go_simp;done)|(go_simp;rfl));intro gb134 hg w3 hbox hb;have n0_:=Aside0.mk (zq9 (by repeat (first|(with_reducible first|exact HB.out|apply zq1|apply zq0|apply zq2)|exact HB.out)) hb);have n1_:=Aside0.mk (hbox);have n2_:=Aside0.mk ((by rw [hg];exact (zq10 (by repeat (first|(with_reducible first|exact HB.out|apply zq1|apply zq0|apply zq2)|exact HB.out))):w.heap.size≤gb134));have n3_:=Aside0.mk ((by rw [hg];exact (zq10 (by repeat (first|(with_reducible first|exact HB.out|apply zq1|apply zq0|apply zq2)|exact HB.out))):w.heap.size≤gb134));clear HB;have HB:=n0_;have BK134:=n1_;have GW134:=n2_;have GE134:=n3_;clear n0_ n1_ n2_ n3_;clear hb hbox hg;have hcz4_0:w3.cell? ⟨gb134,0,none⟩=some (.string bz0):=(zq8 BK134.out 0).trans rfl;have hcz4_1:w3.cell? ⟨gb134,1,none⟩=some (.string bz0):=(zq8 BK134.out 1).trans rfl;have hfz4_0:=zq6 BK134.out 0;have hfz4_1:=zq6 BK134.out 1))
  refine bodyPost_ret (results_ct rfl _ _ gb134 24 #[.string bz0,.string bz0] (0,0) _ rfl (by (with_reducible repeat (first|refine zq4 ?_ _|refine zq7 ?_|refine zq3 ?_ _));refine zq17 (cs:=#[.string bz0,.string bz0]) ?_ 1 _ rfl;(with_reducible repeat (first|refine zq4 ?_ _|refine zq7 ?_|refine zq3 ?_ _));refine zq17 (cs:=#[.string bz0,.string bz0]) ?_ 0 _ rfl;(with_reducible repeat (first|refine zq4 ?_ _|refine zq7 ?_|refine zq3 ?_ _));exact BK134.out) Tryz.underlying24 rfl (by kernel_rfl)) rfl ?_
  exact ⟨by first|rfl|(simp [zq11,zq12]<;>rfl)|(simp [*,zq11,zq12]<;>rfl),by repeat (first|(with_reducible first|exact HB.out|apply zq1|apply zq0|apply zq2|refine zq5 ?_ GE134.out)|exact HB.out)⟩
 ·rw [if_neg c2] at H
  have c2b0:(a0.toList==([60,62]:List UInt8))=false:=beq_eq_false_iff_ne.mpr c2
  have c2b1:(a0.toList != ([60,62]:List UInt8))=true:=bne_iff_ne.mpr c2
  have HC5:=Aside0.mk H
  clear H
  go_enter Tryz.func76,Tryz.ntmps76
  go_upto_region 3 with (first|((with_reducible refine zq21 (N:=2) rfl ?_);(try (refine gate_guard (by rfl) ?_;dsimp only));refine zq22 ?hg (N:=2) ?hd (cs:=#[.string bz0,.string bz0]) (t:=24) ?hr ?_;(case hd=>rfl);(case hg=>rfl);(case hr=>first|(go_simp;done)|(go_simp;rfl));intro gb134 hg w6 hbox hb;have n0_:=Aside0.mk (zq9 (by repeat (first|(with_reducible first|exact HB.out|apply zq1|apply zq0|apply zq2)|exact HB.out)) hb);have n1_:=Aside0.mk (hbox);have n2_:=Aside0.mk ((by rw [hg];exact (zq10 (by repeat (first|(with_reducible first|exact HB.out|apply zq1|apply zq0|apply zq2)|exact HB.out))):w.heap.size≤gb134));have n3_:=Aside0.mk ((by rw [hg];exact (zq10 (by repeat (first|(with_reducible first|exact HB.out|apply zq1|apply zq0|apply zq2)|exact HB.out))):w.heap.size≤gb134));clear HB;have HB:=n0_;have BK134:=n1_;have GW134:=n2_;have GE134:=n3_;clear n0_ n1_ n2_ n3_;clear hb hbox hg))
  (try simp only [Act.put,List.setIfInBounds_toArray,List.set_cons_zero,List.set_cons_succ])
  go_cut [24] (fun v24 wc=>∃ (kq:Nat) (x24_4:Bool),v24=.bool x24_4∧Aside0 (spec_AddrGet.j0 kq a0 x24_4=some (r1,r2,r3))∧Aside0 (kq≤k)∧Aside0 (wc.heap[gb134]?=some (.cells #[.string bz0,.string bz0] 24 (0,0)))∧Aside0 (Below w.heap.size w wc))
  case first =>
   have H:=HC5.out
   clear HC5
   by_cases c7:(a0.size:Int) < 2
   ·rw [if_pos c7] at H
    have c7b0:decide ((a0.size:Int) < 2)=true:=decide_eq_true c7
    have c7b1:decide (a0.size < 2)=true:=decide_eq_true (by omega)
    clear c7
    (first|rw [c7b0]|(simp only [i64_w,i32_w];rw [c7b0])|skip)
    have H':=Aside0.mk H
    clear H
    go_wp2
    go_meet
    case rel=>exact ⟨_,(true),(by first|rfl|(simp;done)|(simp [*];done)),H',⟨by first|omega|exact Nat.le_refl _⟩,⟨by (with_reducible repeat (first|refine zq4 ?_ _|refine zq7 ?_|refine zq3 ?_ _));exact BK134.out⟩,⟨by repeat (first|(with_reducible first|exact HB.out|apply zq1|apply zq0|apply zq2|refine zq5 ?_ GE134.out)|exact HB.out)⟩⟩
   ·rw [if_neg c7] at H
    have c7b0:decide ((a0.size:Int) < 2)=false:=decide_eq_false c7
    have c7b1:decide (a0.size < 2)=false:=decide_eq_false (by omega)
    clear c7
    (first|rw [c7b0]|(simp only [i64_w,i32_w];rw [c7b0])|skip)
    by_cases c8:0 < (a0.size:Int)
    ·rw [if_pos c8] at H
     have c8b0:decide (0 < (a0.size:Int))=true:=decide_eq_true c8
     have c8b1:decide (0 < a0.size)=true:=decide_eq_true (by omega)
     clear c8
     by_cases c10:(bt a0 0)=60
     ·rw [if_pos c10] at H
      have c10b0:((bt a0 0)==60)=true:=beq_iff_eq.mpr c10
      have c10b1:((bt a0 0) != 60)=false:=bne_eq_false_iff_eq.mpr c10
      clear c10
      obtain ⟨ji11,hji11⟩:∃ j_:Int,(wrap64 ((a0.size:Int) - 1))=j_:=⟨_,rfl⟩
      replace H:(if 0≤(ji11) then (if (ji11) < (a0.size:Int) then (spec_AddrGet.j0 k a0 ((bt a0 (ji11)) != 62)) else (none)) else (none))=some (r1,r2,r3):=by first|(rw [hji11] at H;exact H)|(simp only [hji11] at H ⊢;exact H)
      have hji11w:(IntKind.i64.wrap ((a0.size:Int) - 1))=ji11:=(i64_w _).trans hji11
      by_cases c12:0≤(ji11)
      ·rw [if_pos c12] at H
       have c12b0:decide (0≤(ji11))=true:=decide_eq_true c12
       clear c12
       by_cases c13:(ji11) < (a0.size:Int)
       ·rw [if_pos c13] at H
        have c13b0:decide ((ji11) < (a0.size:Int))=true:=decide_eq_true c13
        clear c13
        have H':=Aside0.mk H
        clear H
        have p9:0≤(0:Int):=(by omega)
        have q9:0 < a0.size:=(by have:(0:Int) < (a0.size:Int):=of_decide_eq_true (by first|(with_reducible assumption)|assumption);omega)
        have hx9:∀ h:0 < a0.size,((a0[0]'h).toNat:Int)=bt a0 0:=bt_at a0 0
        clear p9
        have qi9:(0 < (a0.size:Int))=True:=eq_true (of_decide_eq_true (by first|(with_reducible assumption)|assumption))
        replace q9:=eq_true q9
        have p14:0≤((ji11):Int):=of_decide_eq_true (by first|(with_reducible assumption)|assumption)
        have q14:(ji11) < (a0.size:Int):=of_decide_eq_true (by first|(with_reducible assumption)|assumption)
        have hx14:=bt_at a0 (ji11)
        replace p14:=eq_true p14
        replace q14:=eq_true q14
        go_wp2
        go_meet
        case rel=>exact ⟨_,(((bt a0 (ji11)) != 62)),(by first|rfl|(simp;done)|(simp only [← hji11]<;>(first|rfl|simp))|(simp [*];done)),H',⟨by first|omega|exact Nat.le_refl _⟩,⟨by (with_reducible repeat (first|refine zq4 ?_ _|refine zq7 ?_|refine zq3 ?_ _));exact BK134.out⟩,⟨by repeat (first|(with_reducible first|exact HB.out|apply zq1|apply zq0|apply zq2|refine zq5 ?_ GE134.out)|exact HB.out)⟩⟩
       ·rw [if_neg c13] at H
        exact absurd H (by simp)
      ·rw [if_neg c12] at H
       exact absurd H (by simp)
     ·rw [if_neg c10] at H
      have c10b0:((bt a0 0)==60)=false:=beq_eq_false_iff_ne.mpr c10
      have c10b1:((bt a0 0) != 60)=true:=bne_iff_ne.mpr c10
      have H':=Aside0.mk H
      clear H
      have p9:0≤(0:Int):=(by omega)
      have q9:0 < a0.size:=(by have:(0:Int) < (a0.size:Int):=of_decide_eq_true (by first|(with_reducible assumption)|assumption);omega)
      have hx9:∀ h:0 < a0.size,((a0[0]'h).toNat:Int)=bt a0 0:=bt_at a0 0
      clear p9
      have qi9:(0 < (a0.size:Int))=True:=eq_true (of_decide_eq_true (by first|(with_reducible assumption)|assumption))
      replace q9:=eq_true q9
      go_wp2
      go_meet
      case rel=>exact ⟨_,(true),(by first|rfl|(simp;done)|(simp [*];done)),H',⟨by first|omega|exact Nat.le_refl _⟩,⟨by (with_reducible repeat (first|refine zq4 ?_ _|refine zq7 ?_|refine zq3 ?_ _));exact BK134.out⟩,⟨by repeat (first|(with_reducible first|exact HB.out|apply zq1|apply zq0|apply zq2|refine zq5 ?_ GE134.out)|exact HB.out)⟩⟩
    ·rw [if_neg c8] at H
     exact absurd H (by simp)
  case rest =>
   clear HC5
   try clear c1
   try clear p1
   try clear q1
   try clear hx1
   try clear c2
   try clear c2b0
   try clear c2b1
   try clear p2
   try clear p6
   try clear c7
   try clear c7b0
   try clear c7b1
   try clear c8
   try clear c8b0
   try clear c8b1
   try clear p9
   try clear q9
   try clear hx9
   try clear qi9
   try clear c10
   try clear c10b0
   try clear c10b1
   try clear c12
   try clear c12b0
   try clear c13
   try clear c13b0
   try clear p14
   try clear q14
   try clear hx14
   try clear hcz4_0
   try clear hcz4_1
   try clear hfz4_0
   try clear hfz4_1
   try clear p14
   try clear p9
   try clear q14
   try clear q9
   obtain ⟨kq,x24_4,rfl,HA,HJ4,BK134,HB⟩:=hcut
   cases kq with
   | zero=>exact absurd HA.out (by simp [spec_AddrGet.j0])
   | succ kj4 =>
    have H:=HA.out
    clear HA
    simp only [spec_AddrGet.j0] at H
    by_cases c15:x24_4=true
    ·subst c15
     have H1:(some (bz0,bz0,false))=some (r1,r2,r3):=by rw [if_pos rfl] at H;exact H
     clear H
     have H:=H1
     clear H1
     simp only [Option.some.injEq,Prod.mk.injEq] at H
     obtain ⟨rfl,rfl,rfl⟩:=H
     have hcz16_0:wc.cell? ⟨gb134,0,none⟩=some (.string bz0):=(zq8 BK134.out 0).trans rfl
     have hcz16_1:wc.cell? ⟨gb134,1,none⟩=some (.string bz0):=(zq8 BK134.out 1).trans rfl
     have hfz16_0:=zq6 BK134.out 0
     have hfz16_1:=zq6 BK134.out 1
     go_wp2
     refine bodyPost_ret (results_ct rfl _ _ gb134 24 #[.string bz0,.string bz0] (0,0) _ rfl (by (with_reducible repeat (first|refine zq4 ?_ _|refine zq7 ?_|refine zq3 ?_ _));refine zq17 (cs:=#[.string bz0,.string bz0]) ?_ 1 _ rfl;(with_reducible repeat (first|refine zq4 ?_ _|refine zq7 ?_|refine zq3 ?_ _));refine zq17 (cs:=#[.string bz0,.string bz0]) ?_ 0 _ rfl;(with_reducible repeat (first|refine zq4 ?_ _|refine zq7 ?_|refine zq3 ?_ _));exact BK134.out) Tryz.underlying24 rfl (by kernel_rfl)) rfl ?_
     exact ⟨by first|rfl|(simp [zq11,zq12]<;>rfl)|(simp [*,zq11,zq12]<;>rfl),by repeat (first|(with_reducible first|exact HB.out|apply zq1|apply zq0|apply zq2|refine zq5 ?_ GE134.out)|exact HB.out)⟩
    ·replace c15:=Bool.eq_false_iff.mpr c15
     subst c15
     have H1:(if 1≤(wrap64 ((a0.size:Int) - 1)) then (if (wrap64 ((a0.size:Int) - 1))≤(a0.size:Int) then ((spec_l1Cut.f kj4 (a0.extract 1 ((wrap64 ((a0.size:Int) - 1)):Int).toNat) 64 2).bind fun t135=>(if (t135.length:Int)=2 then (if 0 < (t135.length:Int) then (if 1 < (t135.length:Int) then ((spec_l1AddrOk.f kj4 (rdOf ByteArray.empty t135 0) (rdOf ByteArray.empty t135 1)).bind fun t141=>(if t141=true then (some (rdOf ByteArray.empty t135 0,rdOf ByteArray.empty t135 1,true)) else (some (bz0,bz0,false)))) else (none)) else (none)) else (some (bz0,bz0,false)))) else (none)) else (none))=some (r1,r2,r3):=by rw [if_neg (show ¬ (false=true) by decide)] at H;exact H
     clear H
     have H:=H1
     clear H1
     by_cases c17:1≤(wrap64 ((a0.size:Int) - 1))
     ·rw [if_pos c17] at H
      have c17b0:=eq_true c17
      have c17b1:decide (1≤(wrap64 ((a0.size:Int) - 1)))=true:=decide_eq_true c17
      clear c17
      by_cases c18:(wrap64 ((a0.size:Int) - 1))≤(a0.size:Int)
      ·rw [if_pos c18] at H
       have c18b0:=eq_true c18
       have c18b1:decide ((wrap64 ((a0.size:Int) - 1))≤(a0.size:Int))=true:=decide_eq_true c18
       clear c18
       replace H:=Option.bind_eq_some_iff.mp H
       obtain ⟨t135,A190,H⟩:=H
       replace H:(if (t135.length:Int)=2 then (if 0 < (t135.length:Int) then (if 1 < (t135.length:Int) then ((spec_l1AddrOk.f kj4 (rdOf ByteArray.empty t135 0) (rdOf ByteArray.empty t135 1)).bind fun t141=>(if t141=true then (some (rdOf ByteArray.empty t135 0,rdOf ByteArray.empty t135 1,true)) else (some (bz0,bz0,false)))) else (none)) else (none)) else (some (bz0,bz0,false)))=some (r1,r2,r3):=H
       have A19:=Aside0.mk A190
       clear A190
       by_cases c20:(t135.length:Int)=2
       ·rw [if_pos c20] at H
        have c20b0:((t135.length:Int)==2)=true:=beq_iff_eq.mpr c20
        have c20b1:((t135.length:Int) != 2)=false:=bne_eq_false_iff_eq.mpr c20
        clear c20
        by_cases c21:0 < (t135.length:Int)
        ·rw [if_pos c21] at H
         have c21b0:decide (0 < (t135.length:Int))=true:=decide_eq_true c21
         have c21b1:decide (0 < t135.length)=true:=decide_eq_true (by omega)
         clear c21
         by_cases c22:1 < (t135.length:Int)
         ·rw [if_pos c22] at H
          have c22b0:decide (1 < (t135.length:Int))=true:=decide_eq_true c22
          have c22b1:decide (1 < t135.length)=true:=decide_eq_true (by omega)
          clear c22
          replace H:=Option.bind_eq_some_iff.mp H
          obtain ⟨t141,A230,H⟩:=H
          replace H:(if t141=true then (some (rdOf ByteArray.empty t135 0,rdOf ByteArray.empty t135 1,true)) else (some (bz0,bz0,false)))=some (r1,r2,r3):=H
          have A23:=Aside0.mk A230
          clear A230
          by_cases c24:t141=true
          ·subst c24
           have H1:(some (rdOf ByteArray.empty t135 0,rdOf ByteArray.empty t135 1,true))=some (r1,r2,r3):=by rw [if_pos rfl] at H;exact H
           clear H
           have H:=H1
           clear H1
           simp only [Option.some.injEq,Prod.mk.injEq] at H
           obtain ⟨rfl,rfl,rfl⟩:=H
           try go_wp2_with (first|((with_reducible refine zq14 (f:=97) rfl ?_);refine zq20 (some 31) rfl rfl Tryz.func97 (by kernel_rfl) rfl #[.string (a0.extract 1 ((wrap64 ((a0.size:Int) - 1)):Int).toNat),.int .u8 64,.int .i64 2] rfl (by (try simp only [List.map_toArray,List.map_cons,List.map_nil]);first|done|rfl|(simp only [List.length_drop,List.length_take];rfl)) ?_;(with_reducible refine (spec_l1Cut.calls kj4 (a0.extract 1 ((wrap64 ((a0.size:Int) - 1)):Int).toNat) 64 2 t135 _ A19.out).mono ?_);rintro e w25 ⟨v136,rfl,ho0,hb⟩;refine ⟨_,rfl,?_⟩;have n0_:=Aside0.mk (Kd.R_lower ho0 (zq10 (by repeat (first|(with_reducible first|exact HB.out|apply zq1|apply zq0|apply zq2|refine zq5 ?_ GE134.out)|exact HB.out))));have n1_:=Aside0.mk (zq13 (g:=gb134) (o:=.cells #[.string bz0,.string bz0] 24 (0,0)) (by (with_reducible repeat (first|refine zq4 ?_ _|refine zq7 ?_|refine zq3 ?_ _));exact BK134.out) hb);have n2_:=Aside0.mk (zq9 (by repeat (first|(with_reducible first|exact HB.out|apply zq1|apply zq0|apply zq2|refine zq5 ?_ GE134.out)|exact HB.out)) hb);clear BK134;clear HB;have HO137:=n0_;have BK134:=n1_;have HB:=n2_;clear n0_ n1_ n2_;(try clear hb);(try clear hb2);(try clear hk);(try clear hi);(try clear ho0);obtain ⟨Ao26,co26,eo26⟩:=Kd.R_slice HO137.out;subst eo26))
           have n0_:=Aside0.mk (Kd.R_drew HO137.out)
           have n1_:=Aside0.mk (zq7 BK134.out)
           have n2_:=Aside0.mk (zq2 HB.out)
           clear HO137
           clear BK134
           clear HB
           have HO137:=n0_
           have BK134:=n1_
           have HB:=n2_
           clear n0_ n1_ n2_
           have p138:0≤(0:Int):=(by omega)
           have q138:0 < (t135.length:Int):=of_decide_eq_true (by first|(with_reducible assumption)|assumption)
           obtain ⟨ad138,e138,hx138_0⟩:=Kd.at_string (Kd.R_reads' HO137.out).2.2 0 p138 q138
           cases e138
           have qi138:(0 < t135.length)=True:=eq_true (by omega)
           (try rw [show ((0:Int)).toNat=0 from rfl] at hx138_0)
           (try rw [Addr.add_zero'] at hx138_0)
           replace p138:=eq_true p138
           replace q138:=eq_true q138
           have p139:0≤(1:Int):=(by omega)
           have q139:1 < (t135.length:Int):=of_decide_eq_true (by first|(with_reducible assumption)|assumption)
           obtain ⟨ad139,e139,hx139_0⟩:=Kd.at_string (Kd.R_reads' HO137.out).2.2 1 p139 q139
           obtain rfl:ad138=ad139:=(by injection e139)
           (try simp only [show (1:Int).toNat=1 from rfl,Nat.reduceMul,Nat.reduceEqDiff,Go.Addr.add,↓reduceIte] at hx139_0)
           have qi139:(1 < t135.length)=True:=eq_true (by omega)
           (try rw [show ((1:Int)).toNat=1 from rfl] at hx139_0)
           replace p139:=eq_true p139
           replace q139:=eq_true q139
           refine start_ (n:=9) (S:=fun w'=>w'.cell? ad138=some (.string (rdOf ByteArray.empty t135 0))∧w'.cell? ⟨ad138.block,ad138.off+1,none⟩=some (.string (rdOf ByteArray.empty t135 1))) (ds:=[]) #[false,false,false,false,false,false,false,false,false] (by kernel_rfl) rfl rfl ⟨hx138_0,hx139_0⟩ (fun hHeld=>?_);refine with_tabW spec_AddrGet.tab8 spec_AddrGet.bits8 (fun HT_ HW_=>?_)
           generalize w25.drew=w27 at HO137 BK134 HB hx138_0 hx139_0 hHeld ⊢
           refine pure_ (i:=0) (N:=some 36) (v:=?_) (a':=?_) #[true,false,false,false,false,false,false,false,false] rfl rfl (any_of HT_.out (by kernel_rfl)) (fun _ _ _ h=>h) (Or.inl ⟨by rfl,?_⟩) ?_ ?_
           rotate_left
           ·intro w'
            go_simp
            with_reducible rfl
           rotate_left
           ·simp only [Act.put,List.setIfInBounds_toArray,List.set_cons_zero,List.set_cons_succ,i64_w,i32_w]
            rfl
           refine pure_ (i:=1) (N:=some 37) (v:=?_) (a':=?_) #[true,true,false,false,false,false,false,false,false] rfl rfl (any_of HT_.out (by kernel_rfl)) (fun _ _ _ h=>h) (Or.inl ⟨by rfl,?_⟩) ?_ ?_
           rotate_left
           ·intro w'
            go_simp
            with_reducible rfl
           rotate_left
           ·simp only [Act.put,List.setIfInBounds_toArray,List.set_cons_zero,List.set_cons_succ,i64_w,i32_w]
            rfl
           refine pure_ (i:=3) (N:=some 39) (v:=?_) (a':=?_) #[true,true,false,true,false,false,false,false,false] rfl rfl (any_of HT_.out (by kernel_rfl)) (fun _ _ _ h=>h) (Or.inl ⟨by rfl,?_⟩) ?_ ?_
           rotate_left
           ·intro w'
            go_simp
            with_reducible rfl
           rotate_left
           ·simp only [Act.put,List.setIfInBounds_toArray,List.set_cons_zero,List.set_cons_succ,i64_w,i32_w]
            rfl
           refine pure_ (i:=4) (N:=some 40) (v:=?_) (a':=?_) #[true,true,false,true,true,false,false,false,false] rfl rfl (any_of HT_.out (by kernel_rfl)) (fun _ _ _ h=>h) (Or.inl ⟨by rfl,?_⟩) ?_ ?_
           rotate_left
           ·intro w'
            go_simp
            with_reducible rfl
           rotate_left
           ·simp only [Act.put,List.setIfInBounds_toArray,List.set_cons_zero,List.set_cons_succ,i64_w,i32_w]
            rfl
           refine take_ (i:=2) (N:=some 38) (v:=?_) (a':=?_) #[true,true,true,true,true,false,false,false,false] rfl rfl (take_ofW HT_.out HW_.out (by kernel_rfl)) (fun _ _ _ h=>h) (Or.inl ⟨by rfl,?_⟩) hHeld ?_ ?_
           rotate_left
           ·rintro w' ⟨s0,s1⟩
            go_simp
            with_reducible rfl
           rotate_left
           ·simp only [Act.put,List.setIfInBounds_toArray,List.set_cons_zero,List.set_cons_succ,i64_w,i32_w]
            rfl
           refine take_ (i:=5) (N:=some 41) (v:=?_) (a':=?_) #[true,true,true,true,true,true,false,false,false] rfl rfl (take_ofW HT_.out HW_.out (by kernel_rfl)) (fun _ _ _ h=>h) (Or.inl ⟨by rfl,?_⟩) hHeld ?_ ?_
           rotate_left
           ·rintro w' ⟨s0,s1⟩
            go_simp
            with_reducible rfl
           rotate_left
           ·simp only [Act.put,List.setIfInBounds_toArray,List.set_cons_zero,List.set_cons_succ,i64_w,i32_w]
            rfl
           refine pure_ (i:=6) (N:=some 42) (v:=?_) (a':=?_) #[true,true,true,true,true,true,true,false,false] rfl rfl (any_of HT_.out (by kernel_rfl)) (fun _ _ _ h=>h) (Or.inl ⟨by rfl,?_⟩) ?_ ?_
           rotate_left
           ·intro w'
            go_simp
            with_reducible rfl
           rotate_left
           ·simp only [Act.put,List.setIfInBounds_toArray,List.set_cons_zero,List.set_cons_succ,i64_w,i32_w]
            rfl
           refine one_ (i:=7) (N:=some 5) #[true,true,true,true,true,true,true,true,false] rfl rfl (one_of HT_.out (by kernel_rfl)) (by decide) (fun K hK=>?_)
           refine box_step ?hg (N:=5) ?hd (cs:=#[.string bz0,.string bz0]) (t:=24) ?hr ?_;(case hd=>rfl);(case hg=>rfl);(case hr=>first|(go_simp;done)|(go_simp;rfl))
           intro gb140 hg w28 hbox hb
           have HS0_:=(hb.cell (World.block_lt_of_cell? _ _ (hHeld.1))).trans (hHeld.1)
           have HS1_:=(hb.cell (World.block_lt_of_cell? _ _ (hHeld.2))).trans (hHeld.2)
           have n0_:=Aside0.mk (Kd.R_below (by (with_reducible repeat (first|apply Kd.R_alloc|apply Kd.R_drewN|apply Kd.R_drew));exact HO137.out) hb)
           have n1_:=Aside0.mk (zq13 (g:=gb134) (o:=.cells #[.string bz0,.string bz0] 24 (0,0)) (by (with_reducible repeat (first|refine zq4 ?_ _|refine zq7 ?_|refine zq3 ?_ _));exact BK134.out) hb)
           have n2_:=Aside0.mk (zq9 (by repeat (first|(with_reducible first|exact HB.out|apply zq1|apply zq0|apply zq2|refine zq5 ?_ GE134.out)|exact HB.out)) hb)
           have n3_:=Aside0.mk (hbox)
           have n4_:=Aside0.mk ((by rw [hg];exact (zq10 (by repeat (first|(with_reducible first|exact HB.out|apply zq1|apply zq0|apply zq2|refine zq5 ?_ GE134.out)|exact HB.out))):w.heap.size≤gb140))
           have n5_:=Aside0.mk ((by rw [hg];exact (zq10 (by repeat (first|(with_reducible first|exact HB.out|apply zq1|apply zq0|apply zq2|refine zq5 ?_ GE134.out)|exact HB.out))):w.heap.size≤gb140))
           have n6_:=Aside0.mk ((by rw [hg];exact Nat.ne_of_lt (blk_lt (g:=gb134) (o:=.cells #[.string bz0,.string bz0] 24 (0,0)) (by (with_reducible repeat (first|refine zq4 ?_ _|refine zq7 ?_|refine zq3 ?_ _));exact BK134.out)):gb134≠gb140))
           have n7_:=Aside0.mk ((by rw [hg];exact Nat.ne_of_gt (blk_lt (g:=gb134) (o:=.cells #[.string bz0,.string bz0] 24 (0,0)) (by (with_reducible repeat (first|refine zq4 ?_ _|refine zq7 ?_|refine zq3 ?_ _));exact BK134.out)):gb140≠gb134))
           clear HO137
           clear BK134
           clear HB
           have HO137:=n0_
           have BK134:=n1_
           have HB:=n2_
           have BK140:=n3_
           have GW140:=n4_
           have GE140:=n5_
           have NB134_140:=n6_
           have NB140_134:=n7_
           clear n0_ n1_ n2_ n3_ n4_ n5_ n6_ n7_
           clear hb hbox hg
           refine hK.out _ _ ⟨HS0_,HS1_⟩ (fun hHeld=>?_)
           clear hK K
           refine norm_ (a':=?_) ?_ ?_
           rotate_left
           ·show Act.put _ (some 5) _=_
            simp only [Act.put,List.setIfInBounds_toArray,List.set_cons_zero,List.set_cons_succ,i64_w,i32_w]
            rfl
           refine one_ (i:=8) (N:=none) #[true,true,true,true,true,true,true,true,true] rfl rfl (one_of HT_.out (by kernel_rfl)) (by decide) (fun K hK=>?_)
           have hs29:w28.cell? ⟨gb140,0,none⟩=some (.string bz0):=(zq8 BK140.out 0).trans rfl
           have hfs29:=zq6 BK140.out 0
           have hns29_0:=NB134_140.out
           have hms29_0:=NB140_134.out
           have hs30:w28.cell? ⟨gb140,1,none⟩=some (.string bz0):=(zq8 BK140.out 1).trans rfl
           have hfs30:=zq6 BK140.out 1
           have hns30_0:=NB134_140.out
           have hms30_0:=NB140_134.out
           refine skip_ (w1:=?_) (by rfl) rfl ?_ ?_
           rotate_left
           ·go_simp
            rfl
           refine hK.out _ _ ⟨((cell_far (p:=⟨gb140,_,none⟩) (by first|exact Kd.own_blk (Kd.R_ne HO137.out BK140.out (by decide))|(rw [add_block];exact Kd.own_blk (Kd.R_ne HO137.out BK140.out (by decide)))|(show (Addr.add _ _).block≠_;rw [add_block];exact Kd.own_blk (Kd.R_ne HO137.out BK140.out (by decide)))|(dsimp only;exact Kd.own_blk (Kd.R_ne HO137.out BK140.out (by decide)))) _).trans (((cell_far (p:=⟨gb140,_,none⟩) (by first|exact Kd.own_blk (Kd.R_ne HO137.out BK140.out (by decide))|(rw [add_block];exact Kd.own_blk (Kd.R_ne HO137.out BK140.out (by decide)))|(show (Addr.add _ _).block≠_;rw [add_block];exact Kd.own_blk (Kd.R_ne HO137.out BK140.out (by decide)))|(dsimp only;exact Kd.own_blk (Kd.R_ne HO137.out BK140.out (by decide)))) _).trans (hHeld.1)))),((cell_far (p:=⟨gb140,_,none⟩) (by first|exact Kd.own_blk (Kd.R_ne HO137.out BK140.out (by decide))|(rw [add_block];exact Kd.own_blk (Kd.R_ne HO137.out BK140.out (by decide)))|(show (Addr.add _ _).block≠_;rw [add_block];exact Kd.own_blk (Kd.R_ne HO137.out BK140.out (by decide)))|(dsimp only;exact Kd.own_blk (Kd.R_ne HO137.out BK140.out (by decide)))) _).trans (((cell_far (p:=⟨gb140,_,none⟩) (by first|exact Kd.own_blk (Kd.R_ne HO137.out BK140.out (by decide))|(rw [add_block];exact Kd.own_blk (Kd.R_ne HO137.out BK140.out (by decide)))|(show (Addr.add _ _).block≠_;rw [add_block];exact Kd.own_blk (Kd.R_ne HO137.out BK140.out (by decide)))|(dsimp only;exact Kd.own_blk (Kd.R_ne HO137.out BK140.out (by decide)))) _).trans (hHeld.2))))⟩ (fun hHeld=>?_)
           clear hK K
           refine done_ (done_of HT_.out (by kernel_rfl)) ?_
           have hnb31:=NB140_134.out
           have hnc31:=NB134_140.out
           have hcz32_0:w28.cell? ⟨gb140,0,none⟩=some (.string bz0):=(zq8 BK140.out 0).trans rfl
           have hcz32_1:w28.cell? ⟨gb140,1,none⟩=some (.string bz0):=(zq8 BK140.out 1).trans rfl
           have hfz32_0:=zq6 BK140.out 0
           have hfz32_1:=zq6 BK140.out 1
           try go_wp2_with (first|((with_reducible refine zq14 (f:=56) rfl ?_);refine zq20 (some 44) rfl rfl Tryz.func56 (by kernel_rfl) rfl #[.agg #[.string (rdOf ByteArray.empty t135 0),.string (rdOf ByteArray.empty t135 1)]] rfl (by (try simp only [List.map_toArray,List.map_cons,List.map_nil]);first|done|rfl|(simp only [List.length_drop,List.length_take];rfl)) ?_;(with_reducible refine (spec_l1AddrOk.calls kj4 (rdOf ByteArray.empty t135 0) (rdOf ByteArray.empty t135 1) true _ A23.out).mono ?_);rintro e w33 ⟨rfl,hb⟩;refine ⟨_,rfl,?_⟩;have n0_:=Aside0.mk (Kd.R_below (by (with_reducible repeat (first|apply Kd.R_alloc|apply Kd.R_drewN|apply Kd.R_drew));exact (Kd.R_mono (Kd.R_far (p:=⟨gb140,1,none⟩) (Kd.R_far (p:=⟨gb140,0,none⟩) (Kd.R_types HO137.out BK140.out (by decide)) (fun _ hk=>hk.2) (.string (rdOf ByteArray.empty t135 0))) (fun _ hk=>hk.2) (.string (rdOf ByteArray.empty t135 1))) (fun _ h_=>h_.1))) hb);have n1_:=Aside0.mk (zq13 (g:=gb134) (o:=.cells #[.string bz0,.string bz0] 24 (0,0)) (by (with_reducible repeat (first|refine zq4 ?_ _|refine zq7 ?_|refine zq3 ?_ _));refine zq23 ?_ NB134_140.out _;(with_reducible repeat (first|refine zq4 ?_ _|refine zq7 ?_|refine zq3 ?_ _));refine zq23 ?_ NB134_140.out _;(with_reducible repeat (first|refine zq4 ?_ _|refine zq7 ?_|refine zq3 ?_ _));exact BK134.out) hb);have n2_:=Aside0.mk (zq13 (g:=gb140) (o:=.cells #[.string (rdOf ByteArray.empty t135 0),.string (rdOf ByteArray.empty t135 1)] 24 (0,0)) (by (with_reducible repeat (first|refine zq4 ?_ _|refine zq7 ?_|refine zq3 ?_ _));refine zq17 (cs:=#[.string (rdOf ByteArray.empty t135 0),.string bz0]) ?_ 1 _ rfl;(with_reducible repeat (first|refine zq4 ?_ _|refine zq7 ?_|refine zq3 ?_ _));refine zq17 (cs:=#[.string bz0,.string bz0]) ?_ 0 _ rfl;(with_reducible repeat (first|refine zq4 ?_ _|refine zq7 ?_|refine zq3 ?_ _));exact BK140.out) hb);have n3_:=Aside0.mk (zq9 (by repeat (first|(with_reducible first|exact HB.out|apply zq1|apply zq0|apply zq2|refine zq5 ?_ GE134.out|refine zq5 ?_ GE140.out)|exact HB.out)) hb);clear HO137;clear BK134;clear BK140;clear HB;have HO137:=n0_;have BK134:=n1_;have BK140:=n2_;have HB:=n3_;clear n0_ n1_ n2_ n3_;(try clear hb);(try clear hb2);(try clear hk);(try clear hi);have hcz34_0:w33.cell? ⟨gb140,0,none⟩=some (.string (rdOf ByteArray.empty t135 0)):=(zq8 BK140.out 0).trans rfl;have hcz34_1:w33.cell? ⟨gb140,1,none⟩=some (.string (rdOf ByteArray.empty t135 1)):=(zq8 BK140.out 1).trans rfl;have hfz34_0:=zq6 BK140.out 0;have hfz34_1:=zq6 BK140.out 1;have hcz35_0:w33.cell? ⟨gb134,0,none⟩=some (.string bz0):=(zq8 BK134.out 0).trans rfl;have hcz35_1:w33.cell? ⟨gb134,1,none⟩=some (.string bz0):=(zq8 BK134.out 1).trans rfl;have hfz35_0:=zq6 BK134.out 0;have hfz35_1:=zq6 BK134.out 1))
           refine bodyPost_ret (results_ct rfl _ _ gb134 24 #[.string (rdOf ByteArray.empty t135 0),.string (rdOf ByteArray.empty t135 1)] (0,0) _ rfl (by (with_reducible repeat (first|refine zq4 ?_ _|refine zq7 ?_|refine zq3 ?_ _));refine zq17 (cs:=#[.string (rdOf ByteArray.empty t135 0),.string bz0]) ?_ 1 _ rfl;(with_reducible repeat (first|refine zq4 ?_ _|refine zq7 ?_|refine zq3 ?_ _));refine zq17 (cs:=#[.string bz0,.string bz0]) ?_ 0 _ rfl;(with_reducible repeat (first|refine zq4 ?_ _|refine zq7 ?_|refine zq3 ?_ _));exact BK134.out) Tryz.underlying24 rfl (by kernel_rfl)) rfl ?_
           exact ⟨by first|rfl|(simp [zq11,zq12]<;>rfl)|(simp [*,zq11,zq12]<;>rfl),by repeat (first|(with_reducible first|exact HB.out|apply zq1|apply zq0|apply zq2|refine zq5 ?_ GE134.out|refine zq5 ?_ GE140.out)|exact HB.out)⟩
          ·replace c24:=Bool.eq_false_iff.mpr c24
           subst c24
           have H1:(some (bz0,bz0,false))=some (r1,r2,r3):=by rw [if_neg (show ¬ (false=true) by decide)] at H;exact H
           clear H
           have H:=H1
           clear H1
           simp only [Option.some.injEq,Prod.mk.injEq] at H
           obtain ⟨rfl,rfl,rfl⟩:=H
           try go_wp2_with (first|((with_reducible refine zq14 (f:=97) rfl ?_);refine zq20 (some 31) rfl rfl Tryz.func97 (by kernel_rfl) rfl #[.string (a0.extract 1 ((wrap64 ((a0.size:Int) - 1)):Int).toNat),.int .u8 64,.int .i64 2] rfl (by (try simp only [List.map_toArray,List.map_cons,List.map_nil]);first|done|rfl|(simp only [List.length_drop,List.length_take];rfl)) ?_;(with_reducible refine (spec_l1Cut.calls kj4 (a0.extract 1 ((wrap64 ((a0.size:Int) - 1)):Int).toNat) 64 2 t135 _ A19.out).mono ?_);rintro e w36 ⟨v136,rfl,ho0,hb⟩;refine ⟨_,rfl,?_⟩;have n0_:=Aside0.mk (Kd.R_lower ho0 (zq10 (by repeat (first|(with_reducible first|exact HB.out|apply zq1|apply zq0|apply zq2|refine zq5 ?_ GE134.out)|exact HB.out))));have n1_:=Aside0.mk (zq13 (g:=gb134) (o:=.cells #[.string bz0,.string bz0] 24 (0,0)) (by (with_reducible repeat (first|refine zq4 ?_ _|refine zq7 ?_|refine zq3 ?_ _));exact BK134.out) hb);have n2_:=Aside0.mk (zq9 (by repeat (first|(with_reducible first|exact HB.out|apply zq1|apply zq0|apply zq2|refine zq5 ?_ GE134.out)|exact HB.out)) hb);clear BK134;clear HB;have HO137:=n0_;have BK134:=n1_;have HB:=n2_;clear n0_ n1_ n2_;(try clear hb);(try clear hb2);(try clear hk);(try clear hi);(try clear ho0);obtain ⟨Ao37,co37,eo37⟩:=Kd.R_slice HO137.out;subst eo37))
           have n0_:=Aside0.mk (Kd.R_drew HO137.out)
           have n1_:=Aside0.mk (zq7 BK134.out)
           have n2_:=Aside0.mk (zq2 HB.out)
           clear HO137
           clear BK134
           clear HB
           have HO137:=n0_
           have BK134:=n1_
           have HB:=n2_
           clear n0_ n1_ n2_
           have p138:0≤(0:Int):=(by omega)
           have q138:0 < (t135.length:Int):=of_decide_eq_true (by first|(with_reducible assumption)|assumption)
           obtain ⟨ad138,e138,hx138_0⟩:=Kd.at_string (Kd.R_reads' HO137.out).2.2 0 p138 q138
           cases e138
           have qi138:(0 < t135.length)=True:=eq_true (by omega)
           (try rw [show ((0:Int)).toNat=0 from rfl] at hx138_0)
           (try rw [Addr.add_zero'] at hx138_0)
           replace p138:=eq_true p138
           replace q138:=eq_true q138
           have p139:0≤(1:Int):=(by omega)
           have q139:1 < (t135.length:Int):=of_decide_eq_true (by first|(with_reducible assumption)|assumption)
           obtain ⟨ad139,e139,hx139_0⟩:=Kd.at_string (Kd.R_reads' HO137.out).2.2 1 p139 q139
           obtain rfl:ad138=ad139:=(by injection e139)
           (try simp only [show (1:Int).toNat=1 from rfl,Nat.reduceMul,Nat.reduceEqDiff,Go.Addr.add,↓reduceIte] at hx139_0)
           have qi139:(1 < t135.length)=True:=eq_true (by omega)
           (try rw [show ((1:Int)).toNat=1 from rfl] at hx139_0)
           replace p139:=eq_true p139
           replace q139:=eq_true q139
           refine start_ (n:=9) (S:=fun w'=>w'.cell? ad138=some (.string (rdOf ByteArray.empty t135 0))∧w'.cell? ⟨ad138.block,ad138.off+1,none⟩=some (.string (rdOf ByteArray.empty t135 1))) (ds:=[]) #[false,false,false,false,false,false,false,false,false] (by kernel_rfl) rfl rfl ⟨hx138_0,hx139_0⟩ (fun hHeld=>?_);refine with_tabW spec_AddrGet.tab8 spec_AddrGet.bits8 (fun HT_ HW_=>?_)
           generalize w36.drew=w38 at HO137 BK134 HB hx138_0 hx139_0 hHeld ⊢
           refine pure_ (i:=0) (N:=some 36) (v:=?_) (a':=?_) #[true,false,false,false,false,false,false,false,false] rfl rfl (any_of HT_.out (by kernel_rfl)) (fun _ _ _ h=>h) (Or.inl ⟨by rfl,?_⟩) ?_ ?_
           rotate_left
           ·intro w'
            go_simp
            with_reducible rfl
           rotate_left
           ·simp only [Act.put,List.setIfInBounds_toArray,List.set_cons_zero,List.set_cons_succ,i64_w,i32_w]
            rfl
           refine pure_ (i:=1) (N:=some 37) (v:=?_) (a':=?_) #[true,true,false,false,false,false,false,false,false] rfl rfl (any_of HT_.out (by kernel_rfl)) (fun _ _ _ h=>h) (Or.inl ⟨by rfl,?_⟩) ?_ ?_
           rotate_left
           ·intro w'
            go_simp
            with_reducible rfl
           rotate_left
           ·simp only [Act.put,List.setIfInBounds_toArray,List.set_cons_zero,List.set_cons_succ,i64_w,i32_w]
            rfl
           refine pure_ (i:=3) (N:=some 39) (v:=?_) (a':=?_) #[true,true,false,true,false,false,false,false,false] rfl rfl (any_of HT_.out (by kernel_rfl)) (fun _ _ _ h=>h) (Or.inl ⟨by rfl,?_⟩) ?_ ?_
           rotate_left
           ·intro w'
            go_simp
            with_reducible rfl
           rotate_left
           ·simp only [Act.put,List.setIfInBounds_toArray,List.set_cons_zero,List.set_cons_succ,i64_w,i32_w]
            rfl
           refine pure_ (i:=4) (N:=some 40) (v:=?_) (a':=?_) #[true,true,false,true,true,false,false,false,false] rfl rfl (any_of HT_.out (by kernel_rfl)) (fun _ _ _ h=>h) (Or.inl ⟨by rfl,?_⟩) ?_ ?_
           rotate_left
           ·intro w'
            go_simp
            with_reducible rfl
           rotate_left
           ·simp only [Act.put,List.setIfInBounds_toArray,List.set_cons_zero,List.set_cons_succ,i64_w,i32_w]
            rfl
           refine take_ (i:=2) (N:=some 38) (v:=?_) (a':=?_) #[true,true,true,true,true,false,false,false,false] rfl rfl (take_ofW HT_.out HW_.out (by kernel_rfl)) (fun _ _ _ h=>h) (Or.inl ⟨by rfl,?_⟩) hHeld ?_ ?_
           rotate_left
           ·rintro w' ⟨s0,s1⟩
            go_simp
            with_reducible rfl
           rotate_left
           ·simp only [Act.put,List.setIfInBounds_toArray,List.set_cons_zero,List.set_cons_succ,i64_w,i32_w]
            rfl
           refine take_ (i:=5) (N:=some 41) (v:=?_) (a':=?_) #[true,true,true,true,true,true,false,false,false] rfl rfl (take_ofW HT_.out HW_.out (by kernel_rfl)) (fun _ _ _ h=>h) (Or.inl ⟨by rfl,?_⟩) hHeld ?_ ?_
           rotate_left
           ·rintro w' ⟨s0,s1⟩
            go_simp
            with_reducible rfl
           rotate_left
           ·simp only [Act.put,List.setIfInBounds_toArray,List.set_cons_zero,List.set_cons_succ,i64_w,i32_w]
            rfl
           refine pure_ (i:=6) (N:=some 42) (v:=?_) (a':=?_) #[true,true,true,true,true,true,true,false,false] rfl rfl (any_of HT_.out (by kernel_rfl)) (fun _ _ _ h=>h) (Or.inl ⟨by rfl,?_⟩) ?_ ?_
           rotate_left
           ·intro w'
            go_simp
            with_reducible rfl
           rotate_left
           ·simp only [Act.put,List.setIfInBounds_toArray,List.set_cons_zero,List.set_cons_succ,i64_w,i32_w]
            rfl
           refine one_ (i:=7) (N:=some 5) #[true,true,true,true,true,true,true,true,false] rfl rfl (one_of HT_.out (by kernel_rfl)) (by decide) (fun K hK=>?_)
           refine box_step ?hg (N:=5) ?hd (cs:=#[.string bz0,.string bz0]) (t:=24) ?hr ?_;(case hd=>rfl);(case hg=>rfl);(case hr=>first|(go_simp;done)|(go_simp;rfl))
           intro gb140 hg w39 hbox hb
           have HS0_:=(hb.cell (World.block_lt_of_cell? _ _ (hHeld.1))).trans (hHeld.1)
           have HS1_:=(hb.cell (World.block_lt_of_cell? _ _ (hHeld.2))).trans (hHeld.2)
           have n0_:=Aside0.mk (Kd.R_below (by (with_reducible repeat (first|apply Kd.R_alloc|apply Kd.R_drewN|apply Kd.R_drew));exact HO137.out) hb)
           have n1_:=Aside0.mk (zq13 (g:=gb134) (o:=.cells #[.string bz0,.string bz0] 24 (0,0)) (by (with_reducible repeat (first|refine zq4 ?_ _|refine zq7 ?_|refine zq3 ?_ _));exact BK134.out) hb)
           have n2_:=Aside0.mk (zq9 (by repeat (first|(with_reducible first|exact HB.out|apply zq1|apply zq0|apply zq2|refine zq5 ?_ GE134.out)|exact HB.out)) hb)
           have n3_:=Aside0.mk (hbox)
           have n4_:=Aside0.mk ((by rw [hg];exact (zq10 (by repeat (first|(with_reducible first|exact HB.out|apply zq1|apply zq0|apply zq2|refine zq5 ?_ GE134.out)|exact HB.out))):w.heap.size≤gb140))
           have n5_:=Aside0.mk ((by rw [hg];exact (zq10 (by repeat (first|(with_reducible first|exact HB.out|apply zq1|apply zq0|apply zq2|refine zq5 ?_ GE134.out)|exact HB.out))):w.heap.size≤gb140))
           have n6_:=Aside0.mk ((by rw [hg];exact Nat.ne_of_lt (blk_lt (g:=gb134) (o:=.cells #[.string bz0,.string bz0] 24 (0,0)) (by (with_reducible repeat (first|refine zq4 ?_ _|refine zq7 ?_|refine zq3 ?_ _));exact BK134.out)):gb134≠gb140))
           have n7_:=Aside0.mk ((by rw [hg];exact Nat.ne_of_gt (blk_lt (g:=gb134) (o:=.cells #[.string bz0,.string bz0] 24 (0,0)) (by (with_reducible repeat (first|refine zq4 ?_ _|refine zq7 ?_|refine zq3 ?_ _));exact BK134.out)):gb140≠gb134))
           clear HO137
           clear BK134
           clear HB
           have HO137:=n0_
           have BK134:=n1_
           have HB:=n2_
           have BK140:=n3_
           have GW140:=n4_
           have GE140:=n5_
           have NB134_140:=n6_
           have NB140_134:=n7_
           clear n0_ n1_ n2_ n3_ n4_ n5_ n6_ n7_
           clear hb hbox hg
           refine hK.out _ _ ⟨HS0_,HS1_⟩ (fun hHeld=>?_)
           clear hK K
           refine norm_ (a':=?_) ?_ ?_
           rotate_left
           ·show Act.put _ (some 5) _=_
            simp only [Act.put,List.setIfInBounds_toArray,List.set_cons_zero,List.set_cons_succ,i64_w,i32_w]
            rfl
           refine one_ (i:=8) (N:=none) #[true,true,true,true,true,true,true,true,true] rfl rfl (one_of HT_.out (by kernel_rfl)) (by decide) (fun K hK=>?_)
           have hs40:w39.cell? ⟨gb140,0,none⟩=some (.string bz0):=(zq8 BK140.out 0).trans rfl
           have hfs40:=zq6 BK140.out 0
           have hns40_0:=NB134_140.out
           have hms40_0:=NB140_134.out
           have hs41:w39.cell? ⟨gb140,1,none⟩=some (.string bz0):=(zq8 BK140.out 1).trans rfl
           have hfs41:=zq6 BK140.out 1
           have hns41_0:=NB134_140.out
           have hms41_0:=NB140_134.out
           refine skip_ (w1:=?_) (by rfl) rfl ?_ ?_
           rotate_left
           ·go_simp
            rfl
           refine hK.out _ _ ⟨((cell_far (p:=⟨gb140,_,none⟩) (by first|exact Kd.own_blk (Kd.R_ne HO137.out BK140.out (by decide))|(rw [add_block];exact Kd.own_blk (Kd.R_ne HO137.out BK140.out (by decide)))|(show (Addr.add _ _).block≠_;rw [add_block];exact Kd.own_blk (Kd.R_ne HO137.out BK140.out (by decide)))|(dsimp only;exact Kd.own_blk (Kd.R_ne HO137.out BK140.out (by decide)))) _).trans (((cell_far (p:=⟨gb140,_,none⟩) (by first|exact Kd.own_blk (Kd.R_ne HO137.out BK140.out (by decide))|(rw [add_block];exact Kd.own_blk (Kd.R_ne HO137.out BK140.out (by decide)))|(show (Addr.add _ _).block≠_;rw [add_block];exact Kd.own_blk (Kd.R_ne HO137.out BK140.out (by decide)))|(dsimp only;exact Kd.own_blk (Kd.R_ne HO137.out BK140.out (by decide)))) _).trans (hHeld.1)))),((cell_far (p:=⟨gb140,_,none⟩) (by first|exact Kd.own_blk (Kd.R_ne HO137.out BK140.out (by decide))|(rw [add_block];exact Kd.own_blk (Kd.R_ne HO137.out BK140.out (by decide)))|(show (Addr.add _ _).block≠_;rw [add_block];exact Kd.own_blk (Kd.R_ne HO137.out BK140.out (by decide)))|(dsimp only;exact Kd.own_blk (Kd.R_ne HO137.out BK140.out (by decide)))) _).trans (((cell_far (p:=⟨gb140,_,none⟩) (by first|exact Kd.own_blk (Kd.R_ne HO137.out BK140.out (by decide))|(rw [add_block];exact Kd.own_blk (Kd.R_ne HO137.out BK140.out (by decide)))|(show (Addr.add _ _).block≠_;rw [add_block];exact Kd.own_blk (Kd.R_ne HO137.out BK140.out (by decide)))|(dsimp only;exact Kd.own_blk (Kd.R_ne HO137.out BK140.out (by decide)))) _).trans (hHeld.2))))⟩ (fun hHeld=>?_)
           clear hK K
           refine done_ (done_of HT_.out (by kernel_rfl)) ?_
           have hnb42:=NB140_134.out
           have hnc42:=NB134_140.out
           have hcz43_0:w39.cell? ⟨gb140,0,none⟩=some (.string bz0):=(zq8 BK140.out 0).trans rfl
           have hcz43_1:w39.cell? ⟨gb140,1,none⟩=some (.string bz0):=(zq8 BK140.out 1).trans rfl
           have hfz43_0:=zq6 BK140.out 0
           have hfz43_1:=zq6 BK140.out 1
           try go_wp2_with (first|((with_reducible refine zq14 (f:=56) rfl ?_);refine zq20 (some 44) rfl rfl Tryz.func56 (by kernel_rfl) rfl #[.agg #[.string (rdOf ByteArray.empty t135 0),.string (rdOf ByteArray.empty t135 1)]] rfl (by (try simp only [List.map_toArray,List.map_cons,List.map_nil]);first|done|rfl|(simp only [List.length_drop,List.length_take];rfl)) ?_;(with_reducible refine (spec_l1AddrOk.calls kj4 (rdOf ByteArray.empty t135 0) (rdOf ByteArray.empty t135 1) false _ A23.out).mono ?_);rintro e w44 ⟨rfl,hb⟩;refine ⟨_,rfl,?_⟩;have n0_:=Aside0.mk (Kd.R_below (by (with_reducible repeat (first|apply Kd.R_alloc|apply Kd.R_drewN|apply Kd.R_drew));exact (Kd.R_mono (Kd.R_far (p:=⟨gb140,1,none⟩) (Kd.R_far (p:=⟨gb140,0,none⟩) (Kd.R_types HO137.out BK140.out (by decide)) (fun _ hk=>hk.2) (.string (rdOf ByteArray.empty t135 0))) (fun _ hk=>hk.2) (.string (rdOf ByteArray.empty t135 1))) (fun _ h_=>h_.1))) hb);have n1_:=Aside0.mk (zq13 (g:=gb134) (o:=.cells #[.string bz0,.string bz0] 24 (0,0)) (by (with_reducible repeat (first|refine zq4 ?_ _|refine zq7 ?_|refine zq3 ?_ _));refine zq23 ?_ NB134_140.out _;(with_reducible repeat (first|refine zq4 ?_ _|refine zq7 ?_|refine zq3 ?_ _));refine zq23 ?_ NB134_140.out _;(with_reducible repeat (first|refine zq4 ?_ _|refine zq7 ?_|refine zq3 ?_ _));exact BK134.out) hb);have n2_:=Aside0.mk (zq13 (g:=gb140) (o:=.cells #[.string (rdOf ByteArray.empty t135 0),.string (rdOf ByteArray.empty t135 1)] 24 (0,0)) (by (with_reducible repeat (first|refine zq4 ?_ _|refine zq7 ?_|refine zq3 ?_ _));refine zq17 (cs:=#[.string (rdOf ByteArray.empty t135 0),.string bz0]) ?_ 1 _ rfl;(with_reducible repeat (first|refine zq4 ?_ _|refine zq7 ?_|refine zq3 ?_ _));refine zq17 (cs:=#[.string bz0,.string bz0]) ?_ 0 _ rfl;(with_reducible repeat (first|refine zq4 ?_ _|refine zq7 ?_|refine zq3 ?_ _));exact BK140.out) hb);have n3_:=Aside0.mk (zq9 (by repeat (first|(with_reducible first|exact HB.out|apply zq1|apply zq0|apply zq2|refine zq5 ?_ GE134.out|refine zq5 ?_ GE140.out)|exact HB.out)) hb);clear HO137;clear BK134;clear BK140;clear HB;have HO137:=n0_;have BK134:=n1_;have BK140:=n2_;have HB:=n3_;clear n0_ n1_ n2_ n3_;(try clear hb);(try clear hb2);(try clear hk);(try clear hi);have hcz45_0:w44.cell? ⟨gb134,0,none⟩=some (.string bz0):=(zq8 BK134.out 0).trans rfl;have hcz45_1:w44.cell? ⟨gb134,1,none⟩=some (.string bz0):=(zq8 BK134.out 1).trans rfl;have hfz45_0:=zq6 BK134.out 0;have hfz45_1:=zq6 BK134.out 1))
           refine bodyPost_ret (results_ct rfl _ _ gb134 24 #[.string bz0,.string bz0] (0,0) _ rfl (by (with_reducible repeat (first|refine zq4 ?_ _|refine zq7 ?_|refine zq3 ?_ _));refine zq17 (cs:=#[.string bz0,.string bz0]) ?_ 1 _ rfl;(with_reducible repeat (first|refine zq4 ?_ _|refine zq7 ?_|refine zq3 ?_ _));refine zq17 (cs:=#[.string bz0,.string bz0]) ?_ 0 _ rfl;(with_reducible repeat (first|refine zq4 ?_ _|refine zq7 ?_|refine zq3 ?_ _));exact BK134.out) Tryz.underlying24 rfl (by kernel_rfl)) rfl ?_
           exact ⟨by first|rfl|(simp [zq11,zq12]<;>rfl)|(simp [*,zq11,zq12]<;>rfl),by repeat (first|(with_reducible first|exact HB.out|apply zq1|apply zq0|apply zq2|refine zq5 ?_ GE134.out|refine zq5 ?_ GE140.out)|exact HB.out)⟩
         ·rw [if_neg c22] at H
          exact absurd H (by simp)
        ·rw [if_neg c21] at H
         exact absurd H (by simp)
       ·rw [if_neg c20] at H
        have c20b0:((t135.length:Int)==2)=false:=beq_eq_false_iff_ne.mpr c20
        have c20b1:((t135.length:Int) != 2)=true:=bne_iff_ne.mpr c20
        simp only [Option.some.injEq,Prod.mk.injEq] at H
        obtain ⟨rfl,rfl,rfl⟩:=H
        go_wp2_with (first|((with_reducible refine zq14 (f:=97) rfl ?_);refine zq20 (some 31) rfl rfl Tryz.func97 (by kernel_rfl) rfl #[.string (a0.extract 1 ((wrap64 ((a0.size:Int) - 1)):Int).toNat),.int .u8 64,.int .i64 2] rfl (by (try simp only [List.map_toArray,List.map_cons,List.map_nil]);first|done|rfl|(simp only [List.length_drop,List.length_take];rfl)) ?_;(with_reducible refine (spec_l1Cut.calls kj4 (a0.extract 1 ((wrap64 ((a0.size:Int) - 1)):Int).toNat) 64 2 t135 _ A19.out).mono ?_);rintro e w46 ⟨v136,rfl,ho0,hb⟩;refine ⟨_,rfl,?_⟩;have n0_:=Aside0.mk (Kd.R_lower ho0 (zq10 (by repeat (first|(with_reducible first|exact HB.out|apply zq1|apply zq0|apply zq2|refine zq5 ?_ GE134.out)|exact HB.out))));have n1_:=Aside0.mk (zq13 (g:=gb134) (o:=.cells #[.string bz0,.string bz0] 24 (0,0)) (by (with_reducible repeat (first|refine zq4 ?_ _|refine zq7 ?_|refine zq3 ?_ _));exact BK134.out) hb);have n2_:=Aside0.mk (zq9 (by repeat (first|(with_reducible first|exact HB.out|apply zq1|apply zq0|apply zq2|refine zq5 ?_ GE134.out)|exact HB.out)) hb);clear BK134;clear HB;have HO137:=n0_;have BK134:=n1_;have HB:=n2_;clear n0_ n1_ n2_;(try clear hb);(try clear hb2);(try clear hk);(try clear hi);(try clear ho0);obtain ⟨Ao47,co47,eo47⟩:=Kd.R_slice HO137.out;subst eo47;have hcz48_0:w46.cell? ⟨gb134,0,none⟩=some (.string bz0):=(zq8 BK134.out 0).trans rfl;have hcz48_1:w46.cell? ⟨gb134,1,none⟩=some (.string bz0):=(zq8 BK134.out 1).trans rfl;have hfz48_0:=zq6 BK134.out 0;have hfz48_1:=zq6 BK134.out 1))
        refine bodyPost_ret (results_ct rfl _ _ gb134 24 #[.string bz0,.string bz0] (0,0) _ rfl (by (with_reducible repeat (first|refine zq4 ?_ _|refine zq7 ?_|refine zq3 ?_ _));refine zq17 (cs:=#[.string bz0,.string bz0]) ?_ 1 _ rfl;(with_reducible repeat (first|refine zq4 ?_ _|refine zq7 ?_|refine zq3 ?_ _));refine zq17 (cs:=#[.string bz0,.string bz0]) ?_ 0 _ rfl;(with_reducible repeat (first|refine zq4 ?_ _|refine zq7 ?_|refine zq3 ?_ _));exact BK134.out) Tryz.underlying24 rfl (by kernel_rfl)) rfl ?_
        exact ⟨by first|rfl|(simp [zq11,zq12]<;>rfl)|(simp [*,zq11,zq12]<;>rfl),by repeat (first|(with_reducible first|exact HB.out|apply zq1|apply zq0|apply zq2|refine zq5 ?_ GE134.out)|exact HB.out)⟩
      ·rw [if_neg c18] at H
       exact absurd H (by simp)
     ·rw [if_neg c17] at H
      exact absurd H (by simp)
end Go.Proofs.YthkibaldmjfmmaaGreatDoor.Q
